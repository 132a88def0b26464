import Derived.Test.YtpipachmngdegaaTCP8
import Derived.Test.YtpipachmngdegaaProg
import Derived.Shelf.Abstract
section
namespace Go.Proofs.Ytpipachmngdegaa
open Go Go.RowKit
set_option linter.unusedVariables false
set_option maxRecDepth 100000
theorem mixed:Try.prog.follows .mixedOrders=true:=by kernel_rfl
theorem aS:gq Try.prog 3=true:=by kernel_rfl
theorem qy:eE Try.prog 3=some (.int .i64 0):=by kernel_rfl
theorem eO:gq Try.prog 4=true:=by kernel_rfl
theorem cd:eE Try.prog 5=some (.int .u8 0):=by kernel_rfl
theorem bB:gq Try.prog 9=true:=by kernel_rfl
theorem qz:eE Try.prog 9=some (.string ⟨#[]⟩):=by kernel_rfl
theorem du:jS Try.prog 22=some (9,1):=by kernel_rfl
theorem cG:gq Try.prog 22=true:=by kernel_rfl
theorem dU:gq Try.prog 26=true:=by kernel_rfl
theorem fu:gq Try.prog 28=true:=by kernel_rfl
theorem sK:eE Try.prog 28=some (.nilIface):=by kernel_rfl
theorem dr:gq Try.prog 32=true:=by kernel_rfl
theorem iw:jS Try.prog 33=some (46,1):=by kernel_rfl
theorem aT:jS Try.prog 46=some (51,3):=by kernel_rfl
theorem cj:gq Try.prog 46=true:=by kernel_rfl
theorem sL:eE Try.prog 46=some (.slice none 0 0):=by kernel_rfl
theorem aX:kT Try.prog 51=some 3:=by kernel_rfl
theorem j3:tB Try.prog 51=some ([(0,1),(1,1),(2,1)],[.string ⟨#[]⟩,.string ⟨#[]⟩,.bool false]):=by kernel_rfl
theorem bu:eK Try.prog 51 0=some 0:=by kernel_rfl
theorem dV:eK Try.prog 51 1=some 1:=by kernel_rfl
theorem hX:eK Try.prog 51 2=some 2:=by kernel_rfl
theorem bT:eE Try.prog 51=some (.agg #[.string ⟨#[]⟩,.string ⟨#[]⟩,.bool false]):=by kernel_rfl
theorem ej:gq Try.prog 54=true:=by kernel_rfl
theorem kZ:gq Try.prog 62=true:=by kernel_rfl
theorem sM:eE Try.prog 62=some (.nilFunc):=by kernel_rfl
theorem cD:Try.prog.concrete 75=true:=by kernel_rfl
theorem jE:jS Try.prog 79=some (83,2):=by kernel_rfl
theorem cZ:gq Try.prog 79=true:=by kernel_rfl
theorem xp:tB Try.prog 81=some ([(0,1),(1,1),(2,1),(3,1),(4,1)],[.slice none 0 0,.slice none 0 0,.slice none 0 0,.int .i64 0,.bool false]):=by kernel_rfl
theorem ko:eK Try.prog 81 0=some 0:=by kernel_rfl
theorem dW:eK Try.prog 81 1=some 1:=by kernel_rfl
theorem cL:eK Try.prog 81 2=some 2:=by kernel_rfl
theorem eW:eK Try.prog 81 3=some 3:=by kernel_rfl
theorem dX:eK Try.prog 81 4=some 4:=by kernel_rfl
theorem qB:kT Try.prog 83=some 2:=by kernel_rfl
theorem qC:tB Try.prog 83=some ([(0,1),(1,1)],[.int .i64 0,.string ⟨#[]⟩]):=by kernel_rfl
theorem rF:eK Try.prog 83 0=some 0:=by kernel_rfl
theorem rG:eK Try.prog 83 1=some 1:=by kernel_rfl
theorem gv:eE Try.prog 83=some (.agg #[.int .i64 0,.string ⟨#[]⟩]):=by kernel_rfl
theorem xq:tB Try.prog 85=some ([(0,1),(1,1),(2,1),(3,1),(4,1)],[.pointer none,.int .i64 0,.int .i64 0,.int .i64 0,.int .i64 0]):=by kernel_rfl
theorem gi:eK Try.prog 85 0=some 0:=by kernel_rfl
theorem jk:eK Try.prog 85 1=some 1:=by kernel_rfl
theorem kr:eK Try.prog 85 2=some 2:=by kernel_rfl
theorem eX:eK Try.prog 85 3=some 3:=by kernel_rfl
theorem eY:eK Try.prog 85 4=some 4:=by kernel_rfl
theorem lE:jS Try.prog 96=some (62,1):=by kernel_rfl
theorem aN:kT Try.prog 98=some 4:=by kernel_rfl
theorem dq:tB Try.prog 98=some ([(0,1),(1,1),(2,1),(3,1)],[.int .i64 0,.int .i64 0,.int .i64 0,.int .i64 0]):=by kernel_rfl
theorem eG:eK Try.prog 98 0=some 0:=by kernel_rfl
theorem dY:eK Try.prog 98 1=some 1:=by kernel_rfl
theorem eZ:eK Try.prog 98 2=some 2:=by kernel_rfl
theorem eH:eK Try.prog 98 3=some 3:=by kernel_rfl
theorem eP:eE Try.prog 98=some (.agg #[.int .i64 0,.int .i64 0,.int .i64 0,.int .i64 0]):=by kernel_rfl
theorem vX:tB Try.prog 100=some ([(0,1),(1,4),(5,1),(6,1)],[.pointer none,.int .i64 0,.int .i64 0,.int .i64 0,.int .i64 0,.pointer none,.slice none 0 0]):=by kernel_rfl
theorem ew:eK Try.prog 100 0=some 0:=by kernel_rfl
theorem di:eK Try.prog 100 1=some 1:=by kernel_rfl
theorem fa:eK Try.prog 100 2=some 5:=by kernel_rfl
theorem dJ:eK Try.prog 100 3=some 6:=by kernel_rfl
theorem aJ:jS Try.prog 109=some (5,1):=by kernel_rfl
theorem gw:gq Try.prog 109=true:=by kernel_rfl
theorem j4:gq Try.prog 122=true:=by kernel_rfl
theorem iy:eK Try.prog 124 0=some 0:=by kernel_rfl
theorem iz:eK Try.prog 124 1=some 1:=by kernel_rfl
theorem rH:eE Try.prog 124=some (.agg #[.pointer none,.slice none 0 0]):=by kernel_rfl
theorem uz:mE Try.prog 22 1=some (9,16):=by kernel_rfl
theorem qD:((Try.prog.info? 9).map (·.size)).isSome=true:=by kernel_rfl
theorem uA:mE Try.prog 33 1=some (46,24):=by kernel_rfl
theorem ek:mE Try.prog 46 3=some (51,40):=by kernel_rfl
theorem nP:((Try.prog.info? 51).map (·.size)).isSome=true:=by kernel_rfl
theorem jl:mE Try.prog 79 2=some (83,24):=by kernel_rfl
theorem yN:∀args w,(callFunc 9 args).run Try.prog w = .ok (.enter 9 args) w:=enters_of Try.func9 (by kernel_rfl) rfl
theorem kH:∀args w,(callFunc 10 args).run Try.prog w = .ok (.enter 10 args) w:=enters_of Try.func10 (by kernel_rfl) rfl
theorem vn:∀args w,(callFunc 11 args).run Try.prog w = .ok (.enter 11 args) w:=enters_of Try.func11 (by kernel_rfl) rfl
theorem kI:∀args w,(callFunc 12 args).run Try.prog w = .ok (.enter 12 args) w:=enters_of Try.func12 (by kernel_rfl) rfl
theorem sN:∀args w,(callFunc 14 args).run Try.prog w = .ok (.enter 14 args) w:=enters_of Try.func14 (by kernel_rfl) rfl
theorem sO:∀args w,(callFunc 17 args).run Try.prog w = .ok (.enter 17 args) w:=enters_of Try.func17 (by kernel_rfl) rfl
theorem vo:∀args w,(callFunc 18 args).run Try.prog w = .ok (.enter 18 args) w:=enters_of Try.func18 (by kernel_rfl) rfl
theorem vp:∀args w,(callFunc 20 args).run Try.prog w = .ok (.enter 20 args) w:=enters_of Try.func20 (by kernel_rfl) rfl
theorem oI:∀args w,(callFunc 22 args).run Try.prog w = .ok (.enter 22 args) w:=enters_of Try.func22 (by kernel_rfl) rfl
theorem xr:∀args w,(callFunc 23 args).run Try.prog w = .ok (.enter 23 args) w:=enters_of Try.func23 (by kernel_rfl) rfl
theorem oJ:∀args w,(callFunc 24 args).run Try.prog w = .ok (.enter 24 args) w:=enters_of Try.func24 (by kernel_rfl) rfl
theorem qE:∀args w,(callFunc 26 args).run Try.prog w = .ok (.enter 26 args) w:=enters_of Try.func26 (by kernel_rfl) rfl
theorem mY:∀args w,(callFunc 28 args).run Try.prog w = .ok (.enter 28 args) w:=enters_of Try.func28 (by kernel_rfl) rfl
theorem qF:∀args w,(callFunc 29 args).run Try.prog w = .ok (.enter 29 args) w:=enters_of Try.func29 (by kernel_rfl) rfl
theorem vq:∀args w,(callFunc 30 args).run Try.prog w = .ok (.enter 30 args) w:=enters_of Try.func30 (by kernel_rfl) rfl
theorem xt:∀args w,(callFunc 31 args).run Try.prog w = .ok (.enter 31 args) w:=enters_of Try.func31 (by kernel_rfl) rfl
theorem sP:∀args w,(callFunc 32 args).run Try.prog w = .ok (.enter 32 args) w:=enters_of Try.func32 (by kernel_rfl) rfl
theorem xu:∀args w,(callFunc 33 args).run Try.prog w = .ok (.enter 33 args) w:=enters_of Try.func33 (by kernel_rfl) rfl
theorem xw:∀args w,(callFunc 34 args).run Try.prog w = .ok (.enter 34 args) w:=enters_of Try.func34 (by kernel_rfl) rfl
theorem vt:∀args w,(callFunc 35 args).run Try.prog w = .ok (.enter 35 args) w:=enters_of Try.func35 (by kernel_rfl) rfl
theorem qG:∀args w,(callFunc 36 args).run Try.prog w = .ok (.enter 36 args) w:=enters_of Try.func36 (by kernel_rfl) rfl
theorem vu:∀args w,(callFunc 37 args).run Try.prog w = .ok (.enter 37 args) w:=enters_of Try.func37 (by kernel_rfl) rfl
theorem xx:∀args w,(callFunc 38 args).run Try.prog w = .ok (.enter 38 args) w:=enters_of Try.func38 (by kernel_rfl) rfl
theorem sQ:∀args w,(callFunc 39 args).run Try.prog w = .ok (.enter 39 args) w:=enters_of Try.func39 (by kernel_rfl) rfl
theorem xy:∀args w,(callFunc 40 args).run Try.prog w = .ok (.enter 40 args) w:=enters_of Try.func40 (by kernel_rfl) rfl
theorem vv:∀args w,(callFunc 41 args).run Try.prog w = .ok (.enter 41 args) w:=enters_of Try.func41 (by kernel_rfl) rfl
theorem vw:∀args w,(callFunc 42 args).run Try.prog w = .ok (.enter 42 args) w:=enters_of Try.func42 (by kernel_rfl) rfl
theorem xA:∀args w,(callFunc 43 args).run Try.prog w = .ok (.enter 43 args) w:=enters_of Try.func43 (by kernel_rfl) rfl
theorem dB:∀args w,(callFunc 44 args).run Try.prog w = .ok (.enter 44 args) w:=enters_of Try.func44 (by kernel_rfl) rfl
theorem xB:∀args w,(callFunc 45 args).run Try.prog w = .ok (.enter 45 args) w:=enters_of Try.func45 (by kernel_rfl) rfl
theorem mZ:∀args w,(callFunc 48 args).run Try.prog w = .ok (.enter 48 args) w:=enters_of Try.func48 (by kernel_rfl) rfl
theorem xC:∀args w,(callFunc 49 args).run Try.prog w = .ok (.enter 49 args) w:=enters_of Try.func49 (by kernel_rfl) rfl
theorem xD:∀args w,(callFunc 50 args).run Try.prog w = .ok (.enter 50 args) w:=enters_of Try.func50 (by kernel_rfl) rfl
theorem m4:∀args w,(callFunc 51 args).run Try.prog w = .ok (.enter 51 args) w:=enters_of Try.func51 (by kernel_rfl) rfl
theorem xE:∀args w,(callFunc 52 args).run Try.prog w = .ok (.enter 52 args) w:=enters_of Try.func52 (by kernel_rfl) rfl
theorem vx:∀args w,(callFunc 53 args).run Try.prog w = .ok (.enter 53 args) w:=enters_of Try.func53 (by kernel_rfl) rfl
theorem xF:∀args w,(callFunc 54 args).run Try.prog w = .ok (.enter 54 args) w:=enters_of Try.func54 (by kernel_rfl) rfl
theorem xG:∀args w,(callFunc 55 args).run Try.prog w = .ok (.enter 55 args) w:=enters_of Try.func55 (by kernel_rfl) rfl
theorem sR:∀args w,(callFunc 56 args).run Try.prog w = .ok (.enter 56 args) w:=enters_of Try.func56 (by kernel_rfl) rfl
theorem vy:∀args w,(callFunc 57 args).run Try.prog w = .ok (.enter 57 args) w:=enters_of Try.func57 (by kernel_rfl) rfl
theorem xH:∀args w,(callFunc 58 args).run Try.prog w = .ok (.enter 58 args) w:=enters_of Try.func58 (by kernel_rfl) rfl
theorem xI:∀args w,(callFunc 59 args).run Try.prog w = .ok (.enter 59 args) w:=enters_of Try.func59 (by kernel_rfl) rfl
theorem vz:∀args w,(callFunc 60 args).run Try.prog w = .ok (.enter 60 args) w:=enters_of Try.func60 (by kernel_rfl) rfl
theorem xJ:∀args w,(callFunc 61 args).run Try.prog w = .ok (.enter 61 args) w:=enters_of Try.func61 (by kernel_rfl) rfl
theorem xK:∀args w,(callFunc 62 args).run Try.prog w = .ok (.enter 62 args) w:=enters_of Try.func62 (by kernel_rfl) rfl
theorem gL:∀args w,(callFunc 63 args).run Try.prog w = .ok (.enter 63 args) w:=enters_of Try.func63 (by kernel_rfl) rfl
theorem xL:∀args w,(callFunc 64 args).run Try.prog w = .ok (.enter 64 args) w:=enters_of Try.func64 (by kernel_rfl) rfl
theorem xM:∀args w,(callFunc 65 args).run Try.prog w = .ok (.enter 65 args) w:=enters_of Try.func65 (by kernel_rfl) rfl
theorem xO:∀args w,(callFunc 66 args).run Try.prog w = .ok (.enter 66 args) w:=enters_of Try.func66 (by kernel_rfl) rfl
theorem xP:∀args w,(callFunc 67 args).run Try.prog w = .ok (.enter 67 args) w:=enters_of Try.func67 (by kernel_rfl) rfl
theorem xQ:∀args w,(callFunc 68 args).run Try.prog w = .ok (.enter 68 args) w:=enters_of Try.func68 (by kernel_rfl) rfl
theorem qH:∀args w,(callFunc 69 args).run Try.prog w = .ok (.enter 69 args) w:=enters_of Try.func69 (by kernel_rfl) rfl
theorem xR:∀args w,(callFunc 70 args).run Try.prog w = .ok (.enter 70 args) w:=enters_of Try.func70 (by kernel_rfl) rfl
theorem xS:∀args w,(callFunc 71 args).run Try.prog w = .ok (.enter 71 args) w:=enters_of Try.func71 (by kernel_rfl) rfl
theorem xU:∀args w,(callFunc 72 args).run Try.prog w = .ok (.enter 72 args) w:=enters_of Try.func72 (by kernel_rfl) rfl
theorem vA:∀args w,(callFunc 78 args).run Try.prog w = .ok (.enter 78 args) w:=enters_of Try.func78 (by kernel_rfl) rfl
end Go.Proofs.Ytpipachmngdegaa
end
