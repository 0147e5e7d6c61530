/- A part of the proof of the statement in the last file of this claim: texts on the language of the program and on its functions. No condition. -/
import Derived.Test.YtmcdjilbkmhfoaaGreatProg
import Derived.Test.YtmcdjilbkmhfoaaGreatCFnKept3
import Derived.Test.YtmcdjilbkmhfoaaGreatChecked
import Derived.Lib.SmallJoins
import Derived.IntWalk
namespace Go.Proofs.YtmcdjilbkmhfoaaGreat
open Go.RowKit
set_option maxRecDepth 10000
attribute [go_sem] Tryz.underlying2
@[go_sem] theorem tc2 : Tryz.prog.cellsOf 2 = 1 := by kernel_rfl
@[go_sem] theorem tb2 : Tryz.prog.bytesOf 2 = 8 := by kernel_rfl
@[go_sem] theorem tz2 : pz Tryz.prog 2 = some [.v (.int .i64 0)] := by kernel_rfl
attribute [go_sem] Tryz.underlying3
@[go_sem] theorem tc3 : Tryz.prog.cellsOf 3 = 1 := by kernel_rfl
@[go_sem] theorem tb3 : Tryz.prog.bytesOf 3 = 8 := by kernel_rfl
@[go_sem] theorem tz3 : pz Tryz.prog 3 = some [.v (.int .i64 0)] := by kernel_rfl
attribute [go_sem] Tryz.underlying4
@[go_sem] theorem tc4 : Tryz.prog.cellsOf 4 = 1 := by kernel_rfl
@[go_sem] theorem tb4 : Tryz.prog.bytesOf 4 = 1 := by kernel_rfl
@[go_sem] theorem tz4 : pz Tryz.prog 4 = some [.v (.bool false)] := by kernel_rfl
attribute [go_sem] Tryz.underlying5
@[go_sem] theorem tc5 : Tryz.prog.cellsOf 5 = 1 := by kernel_rfl
@[go_sem] theorem tb5 : Tryz.prog.bytesOf 5 = 1 := by kernel_rfl
@[go_sem] theorem tz5 : pz Tryz.prog 5 = some [.v (.int .u8 0)] := by kernel_rfl
attribute [go_sem] Tryz.underlying9
@[go_sem] theorem tc9 : Tryz.prog.cellsOf 9 = 1 := by kernel_rfl
@[go_sem] theorem tb9 : Tryz.prog.bytesOf 9 = 16 := by kernel_rfl
@[go_sem] theorem tz9 : pz Tryz.prog 9 = some [.v (.string ⟨#[]⟩)] := by kernel_rfl
attribute [go_sem] Tryz.underlying12
@[go_sem] theorem tc12 : Tryz.prog.cellsOf 12 = 1 := by kernel_rfl
@[go_sem] theorem tb12 : Tryz.prog.bytesOf 12 = 8 := by kernel_rfl
@[go_sem] theorem tz12 : pz Tryz.prog 12 = some [.v (.int .u64 0)] := by kernel_rfl
attribute [go_sem] Tryz.underlying21
@[go_sem] theorem tc21 : Tryz.prog.cellsOf 21 = 1 := by kernel_rfl
@[go_sem] theorem tb21 : Tryz.prog.bytesOf 21 = 4 := by kernel_rfl
@[go_sem] theorem tz21 : pz Tryz.prog 21 = some [.v (.int .i32 0)] := by kernel_rfl
attribute [go_sem] Tryz.underlying22
@[go_sem] theorem tc22 : Tryz.prog.cellsOf 22 = 1 := by kernel_rfl
@[go_sem] theorem tb22 : Tryz.prog.bytesOf 22 = 24 := by kernel_rfl
@[go_sem] theorem tz22 : pz Tryz.prog 22 = some [.v (.slice none 0 0)] := by kernel_rfl
@[go_sem] theorem tk22 : elemK Tryz.prog 22 = 6 := by kernel_rfl
attribute [go_sem] Tryz.underlying23
@[go_sem] theorem tc23 : Tryz.prog.cellsOf 23 = 1 := by kernel_rfl
@[go_sem] theorem tb23 : Tryz.prog.bytesOf 23 = 24 := by kernel_rfl
@[go_sem] theorem tz23 : pz Tryz.prog 23 = some [.v (.slice none 0 0)] := by kernel_rfl
@[go_sem] theorem tk23 : elemK Tryz.prog 23 = 1 := by kernel_rfl
attribute [go_sem] Tryz.underlying24
@[go_sem] theorem tc24 : Tryz.prog.cellsOf 24 = 3 := by kernel_rfl
@[go_sem] theorem tb24 : Tryz.prog.bytesOf 24 = 56 := by kernel_rfl
@[go_sem] theorem tz24 : pz Tryz.prog 24 = some [.v (.slice none 0 0), .v (.slice none 0 0), .v (.int .i64 0)] := by kernel_rfl
@[go_sem] theorem te24 : Tryz.prog.eqGuardType Tryz.prog.depth 24 = false := by kernel_rfl
@[go_sem] theorem ts24 : Tryz.prog.stoodInHeld 24 = false := by kernel_rfl
attribute [go_sem] Tryz.underlying25
@[go_sem] theorem tc25 : Tryz.prog.cellsOf 25 = 3 := by kernel_rfl
@[go_sem] theorem tb25 : Tryz.prog.bytesOf 25 = 56 := by kernel_rfl
@[go_sem] theorem tz25 : pz Tryz.prog 25 = some [.v (.slice none 0 0), .v (.slice none 0 0), .v (.int .i64 0)] := by kernel_rfl
@[go_sem] theorem te25 : Tryz.prog.eqGuardType Tryz.prog.depth 25 = false := by kernel_rfl
@[go_sem] theorem ts25 : Tryz.prog.stoodInHeld 25 = false := by kernel_rfl
attribute [go_sem] Tryz.underlying26
@[go_sem] theorem tc26 : Tryz.prog.cellsOf 26 = 1 := by kernel_rfl
@[go_sem] theorem tb26 : Tryz.prog.bytesOf 26 = 24 := by kernel_rfl
@[go_sem] theorem tz26 : pz Tryz.prog 26 = some [.v (.slice none 0 0)] := by kernel_rfl
@[go_sem] theorem tk26 : elemK Tryz.prog 26 = 11 := by kernel_rfl
attribute [go_sem] Tryz.underlying27
@[go_sem] theorem tc27 : Tryz.prog.cellsOf 27 = 1 := by kernel_rfl
@[go_sem] theorem tb27 : Tryz.prog.bytesOf 27 = 24 := by kernel_rfl
@[go_sem] theorem tz27 : pz Tryz.prog 27 = some [.v (.slice none 0 0)] := by kernel_rfl
@[go_sem] theorem tk27 : elemK Tryz.prog 27 = 4 := by kernel_rfl
attribute [go_sem] Tryz.underlying28
@[go_sem] theorem tc28 : Tryz.prog.cellsOf 28 = 1 := by kernel_rfl
@[go_sem] theorem tb28 : Tryz.prog.bytesOf 28 = 24 := by kernel_rfl
@[go_sem] theorem tz28 : pz Tryz.prog 28 = some [.v (.slice none 0 0)] := by kernel_rfl
@[go_sem] theorem tk28 : elemK Tryz.prog 28 = 2 := by kernel_rfl
attribute [go_sem] Tryz.underlying29
@[go_sem] theorem tc29 : Tryz.prog.cellsOf 29 = 1 := by kernel_rfl
@[go_sem] theorem tb29 : Tryz.prog.bytesOf 29 = 24 := by kernel_rfl
@[go_sem] theorem tz29 : pz Tryz.prog 29 = some [.v (.slice none 0 0)] := by kernel_rfl
@[go_sem] theorem tk29 : elemK Tryz.prog 29 = 6 := by kernel_rfl
attribute [go_sem] Tryz.underlying30
@[go_sem] theorem tc30 : Tryz.prog.cellsOf 30 = 10 := by kernel_rfl
@[go_sem] theorem tb30 : Tryz.prog.bytesOf 30 = 192 := by kernel_rfl
@[go_sem] theorem tz30 : pz Tryz.prog 30 = some [.v (.slice none 0 0), .v (.slice none 0 0), .v (.int .i64 0), .v (.slice none 0 0), .v (.slice none 0 0), .v (.slice none 0 0), .v (.int .i64 0), .v (.slice none 0 0), .v (.slice none 0 0), .v (.int .i64 0)] := by kernel_rfl
@[go_sem] theorem te30 : Tryz.prog.eqGuardType Tryz.prog.depth 30 = false := by kernel_rfl
@[go_sem] theorem ts30 : Tryz.prog.stoodInHeld 30 = false := by kernel_rfl
attribute [go_sem] Tryz.underlying31
@[go_sem] theorem tc31 : Tryz.prog.cellsOf 31 = 10 := by kernel_rfl
@[go_sem] theorem tb31 : Tryz.prog.bytesOf 31 = 192 := by kernel_rfl
@[go_sem] theorem tz31 : pz Tryz.prog 31 = some [.v (.slice none 0 0), .v (.slice none 0 0), .v (.int .i64 0), .v (.slice none 0 0), .v (.slice none 0 0), .v (.slice none 0 0), .v (.int .i64 0), .v (.slice none 0 0), .v (.slice none 0 0), .v (.int .i64 0)] := by kernel_rfl
@[go_sem] theorem te31 : Tryz.prog.eqGuardType Tryz.prog.depth 31 = false := by kernel_rfl
@[go_sem] theorem ts31 : Tryz.prog.stoodInHeld 31 = false := by kernel_rfl
attribute [go_sem] Tryz.underlying33
@[go_sem] theorem tc33 : Tryz.prog.cellsOf 33 = 1 := by kernel_rfl
@[go_sem] theorem tb33 : Tryz.prog.bytesOf 33 = 24 := by kernel_rfl
@[go_sem] theorem tz33 : pz Tryz.prog 33 = some [.v (.slice none 0 0)] := by kernel_rfl
@[go_sem] theorem tk33 : elemK Tryz.prog 33 = 6 := by kernel_rfl
attribute [go_sem] Tryz.underlying34
@[go_sem] theorem tc34 : Tryz.prog.cellsOf 34 = 3 := by kernel_rfl
@[go_sem] theorem tb34 : Tryz.prog.bytesOf 34 = 56 := by kernel_rfl
@[go_sem] theorem tz34 : pz Tryz.prog 34 = some [.v (.slice none 0 0), .v (.slice none 0 0), .v (.int .i64 0)] := by kernel_rfl
@[go_sem] theorem te34 : Tryz.prog.eqGuardType Tryz.prog.depth 34 = false := by kernel_rfl
@[go_sem] theorem ts34 : Tryz.prog.stoodInHeld 34 = false := by kernel_rfl
attribute [go_sem] Tryz.underlying35
@[go_sem] theorem tc35 : Tryz.prog.cellsOf 35 = 3 := by kernel_rfl
@[go_sem] theorem tb35 : Tryz.prog.bytesOf 35 = 56 := by kernel_rfl
@[go_sem] theorem tz35 : pz Tryz.prog 35 = some [.v (.slice none 0 0), .v (.slice none 0 0), .v (.int .i64 0)] := by kernel_rfl
@[go_sem] theorem te35 : Tryz.prog.eqGuardType Tryz.prog.depth 35 = false := by kernel_rfl
@[go_sem] theorem ts35 : Tryz.prog.stoodInHeld 35 = false := by kernel_rfl
attribute [go_sem] Tryz.underlying36
@[go_sem] theorem tc36 : Tryz.prog.cellsOf 36 = 1 := by kernel_rfl
@[go_sem] theorem tb36 : Tryz.prog.bytesOf 36 = 24 := by kernel_rfl
@[go_sem] theorem tz36 : pz Tryz.prog 36 = some [.v (.slice none 0 0)] := by kernel_rfl
@[go_sem] theorem tk36 : elemK Tryz.prog 36 = 11 := by kernel_rfl
attribute [go_sem] Tryz.underlying37
@[go_sem] theorem tc37 : Tryz.prog.cellsOf 37 = 1 := by kernel_rfl
@[go_sem] theorem tb37 : Tryz.prog.bytesOf 37 = 24 := by kernel_rfl
@[go_sem] theorem tz37 : pz Tryz.prog 37 = some [.v (.slice none 0 0)] := by kernel_rfl
@[go_sem] theorem tk37 : elemK Tryz.prog 37 = 4 := by kernel_rfl
attribute [go_sem] Tryz.underlying38
@[go_sem] theorem tc38 : Tryz.prog.cellsOf 38 = 1 := by kernel_rfl
@[go_sem] theorem tb38 : Tryz.prog.bytesOf 38 = 24 := by kernel_rfl
@[go_sem] theorem tz38 : pz Tryz.prog 38 = some [.v (.slice none 0 0)] := by kernel_rfl
@[go_sem] theorem tk38 : elemK Tryz.prog 38 = 2 := by kernel_rfl
attribute [go_sem] Tryz.underlying39
@[go_sem] theorem tc39 : Tryz.prog.cellsOf 39 = 1 := by kernel_rfl
@[go_sem] theorem tb39 : Tryz.prog.bytesOf 39 = 24 := by kernel_rfl
@[go_sem] theorem tz39 : pz Tryz.prog 39 = some [.v (.slice none 0 0)] := by kernel_rfl
@[go_sem] theorem tk39 : elemK Tryz.prog 39 = 6 := by kernel_rfl
attribute [go_sem] Tryz.underlying40
@[go_sem] theorem tc40 : Tryz.prog.cellsOf 40 = 10 := by kernel_rfl
@[go_sem] theorem tb40 : Tryz.prog.bytesOf 40 = 192 := by kernel_rfl
@[go_sem] theorem tz40 : pz Tryz.prog 40 = some [.v (.slice none 0 0), .v (.slice none 0 0), .v (.int .i64 0), .v (.slice none 0 0), .v (.slice none 0 0), .v (.slice none 0 0), .v (.int .i64 0), .v (.slice none 0 0), .v (.slice none 0 0), .v (.int .i64 0)] := by kernel_rfl
@[go_sem] theorem te40 : Tryz.prog.eqGuardType Tryz.prog.depth 40 = false := by kernel_rfl
@[go_sem] theorem ts40 : Tryz.prog.stoodInHeld 40 = false := by kernel_rfl
attribute [go_sem] Tryz.underlying41
@[go_sem] theorem tc41 : Tryz.prog.cellsOf 41 = 10 := by kernel_rfl
@[go_sem] theorem tb41 : Tryz.prog.bytesOf 41 = 192 := by kernel_rfl
@[go_sem] theorem tz41 : pz Tryz.prog 41 = some [.v (.slice none 0 0), .v (.slice none 0 0), .v (.int .i64 0), .v (.slice none 0 0), .v (.slice none 0 0), .v (.slice none 0 0), .v (.int .i64 0), .v (.slice none 0 0), .v (.slice none 0 0), .v (.int .i64 0)] := by kernel_rfl
@[go_sem] theorem te41 : Tryz.prog.eqGuardType Tryz.prog.depth 41 = false := by kernel_rfl
@[go_sem] theorem ts41 : Tryz.prog.stoodInHeld 41 = false := by kernel_rfl
attribute [go_sem] Tryz.underlying47
@[go_sem] theorem tc47 : Tryz.prog.cellsOf 47 = 1 := by kernel_rfl
@[go_sem] theorem tb47 : Tryz.prog.bytesOf 47 = 24 := by kernel_rfl
@[go_sem] theorem tz47 : pz Tryz.prog 47 = some [.v (.slice none 0 0)] := by kernel_rfl
@[go_sem] theorem tk47 : elemK Tryz.prog 47 = 1 := by kernel_rfl
attribute [go_sem] Tryz.underlying54
@[go_sem] theorem tc54 : Tryz.prog.cellsOf 54 = 2 := by kernel_rfl
@[go_sem] theorem tb54 : Tryz.prog.bytesOf 54 = 16 := by kernel_rfl
@[go_sem] theorem tz54 : pz Tryz.prog 54 = some [.v (.int .i64 0), .v (.int .i64 0)] := by kernel_rfl
@[go_sem] theorem te54 : Tryz.prog.eqGuardType Tryz.prog.depth 54 = false := by kernel_rfl
@[go_sem] theorem ts54 : Tryz.prog.stoodInHeld 54 = false := by kernel_rfl
attribute [go_sem] Tryz.underlying55
@[go_sem] theorem tc55 : Tryz.prog.cellsOf 55 = 2 := by kernel_rfl
@[go_sem] theorem tb55 : Tryz.prog.bytesOf 55 = 16 := by kernel_rfl
@[go_sem] theorem tz55 : pz Tryz.prog 55 = some [.v (.int .i64 0), .v (.int .i64 0)] := by kernel_rfl
@[go_sem] theorem te55 : Tryz.prog.eqGuardType Tryz.prog.depth 55 = false := by kernel_rfl
@[go_sem] theorem ts55 : Tryz.prog.stoodInHeld 55 = false := by kernel_rfl
attribute [go_sem] Tryz.underlying61
@[go_sem] theorem tc61 : Tryz.prog.cellsOf 61 = 11 := by kernel_rfl
@[go_sem] theorem tb61 : Tryz.prog.bytesOf 61 = 128 := by kernel_rfl
@[go_sem] theorem tz61 : pz Tryz.prog 61 = some [.v (.string ⟨#[]⟩), .v (.string ⟨#[]⟩), .v (.int .i64 0), .v (.int .i64 0), .v (.int .i64 0), .v (.int .i64 0), .v (.slice none 0 0), .v (.int .i64 0), .v (.int .i64 0), .v (.string ⟨#[]⟩), .v (.int .i64 0)] := by kernel_rfl
@[go_sem] theorem te61 : Tryz.prog.eqGuardType Tryz.prog.depth 61 = false := by kernel_rfl
@[go_sem] theorem ts61 : Tryz.prog.stoodInHeld 61 = false := by kernel_rfl
attribute [go_sem] Tryz.underlying62
@[go_sem] theorem tc62 : Tryz.prog.cellsOf 62 = 11 := by kernel_rfl
@[go_sem] theorem tb62 : Tryz.prog.bytesOf 62 = 128 := by kernel_rfl
@[go_sem] theorem tz62 : pz Tryz.prog 62 = some [.v (.string ⟨#[]⟩), .v (.string ⟨#[]⟩), .v (.int .i64 0), .v (.int .i64 0), .v (.int .i64 0), .v (.int .i64 0), .v (.slice none 0 0), .v (.int .i64 0), .v (.int .i64 0), .v (.string ⟨#[]⟩), .v (.int .i64 0)] := by kernel_rfl
@[go_sem] theorem te62 : Tryz.prog.eqGuardType Tryz.prog.depth 62 = false := by kernel_rfl
@[go_sem] theorem ts62 : Tryz.prog.stoodInHeld 62 = false := by kernel_rfl
attribute [go_sem] Tryz.underlying66
@[go_sem] theorem tc66 : Tryz.prog.cellsOf 66 = 6 := by kernel_rfl
@[go_sem] theorem tb66 : Tryz.prog.bytesOf 66 = 64 := by kernel_rfl
@[go_sem] theorem tz66 : pz Tryz.prog 66 = some [.v (.string ⟨#[]⟩), .v (.string ⟨#[]⟩), .v (.int .i64 0), .v (.int .i64 0), .v (.int .i64 0), .v (.int .i64 0)] := by kernel_rfl
@[go_sem] theorem te66 : Tryz.prog.eqGuardType Tryz.prog.depth 66 = false := by kernel_rfl
@[go_sem] theorem ts66 : Tryz.prog.stoodInHeld 66 = false := by kernel_rfl
attribute [go_sem] Tryz.underlying67
@[go_sem] theorem tc67 : Tryz.prog.cellsOf 67 = 6 := by kernel_rfl
@[go_sem] theorem tb67 : Tryz.prog.bytesOf 67 = 64 := by kernel_rfl
@[go_sem] theorem tz67 : pz Tryz.prog 67 = some [.v (.string ⟨#[]⟩), .v (.string ⟨#[]⟩), .v (.int .i64 0), .v (.int .i64 0), .v (.int .i64 0), .v (.int .i64 0)] := by kernel_rfl
@[go_sem] theorem te67 : Tryz.prog.eqGuardType Tryz.prog.depth 67 = false := by kernel_rfl
@[go_sem] theorem ts67 : Tryz.prog.stoodInHeld 67 = false := by kernel_rfl
attribute [go_sem] Tryz.underlying71
@[go_sem] theorem tc71 : Tryz.prog.cellsOf 71 = 2 := by kernel_rfl
@[go_sem] theorem tb71 : Tryz.prog.bytesOf 71 = 16 := by kernel_rfl
@[go_sem] theorem tz71 : pz Tryz.prog 71 = some [.v (.int .i64 0), .v (.int .i64 0)] := by kernel_rfl
@[go_sem] theorem te71 : Tryz.prog.eqGuardType Tryz.prog.depth 71 = false := by kernel_rfl
@[go_sem] theorem ts71 : Tryz.prog.stoodInHeld 71 = false := by kernel_rfl
attribute [go_sem] Tryz.underlying81
@[go_sem] theorem tc81 : Tryz.prog.cellsOf 81 = 1 := by kernel_rfl
@[go_sem] theorem tb81 : Tryz.prog.bytesOf 81 = 24 := by kernel_rfl
@[go_sem] theorem tz81 : pz Tryz.prog 81 = some [.v (.slice none 0 0)] := by kernel_rfl
@[go_sem] theorem tk81 : elemK Tryz.prog 81 = 1 := by kernel_rfl
attribute [go_sem] Tryz.underlying91
@[go_sem] theorem tc91 : Tryz.prog.cellsOf 91 = 2 := by kernel_rfl
@[go_sem] theorem tb91 : Tryz.prog.bytesOf 91 = 48 := by kernel_rfl
@[go_sem] theorem tz91 : pz Tryz.prog 91 = some [.v (.slice none 0 0), .v (.slice none 0 0)] := by kernel_rfl
@[go_sem] theorem te91 : Tryz.prog.eqGuardType Tryz.prog.depth 91 = false := by kernel_rfl
@[go_sem] theorem ts91 : Tryz.prog.stoodInHeld 91 = false := by kernel_rfl
attribute [go_sem] Tryz.underlying92
@[go_sem] theorem tc92 : Tryz.prog.cellsOf 92 = 2 := by kernel_rfl
@[go_sem] theorem tb92 : Tryz.prog.bytesOf 92 = 48 := by kernel_rfl
@[go_sem] theorem tz92 : pz Tryz.prog 92 = some [.v (.slice none 0 0), .v (.slice none 0 0)] := by kernel_rfl
@[go_sem] theorem te92 : Tryz.prog.eqGuardType Tryz.prog.depth 92 = false := by kernel_rfl
@[go_sem] theorem ts92 : Tryz.prog.stoodInHeld 92 = false := by kernel_rfl
attribute [go_sem] Tryz.underlying129
@[go_sem] theorem tc129 : Tryz.prog.cellsOf 129 = 6 := by kernel_rfl
@[go_sem] theorem tb129 : Tryz.prog.bytesOf 129 = 56 := by kernel_rfl
@[go_sem] theorem tz129 : pz Tryz.prog 129 = some [.v (.int .i64 0), .v (.int .i64 0), .v (.int .i64 0), .v (.string ⟨#[]⟩), .v (.int .i64 0), .v (.int .i64 0)] := by kernel_rfl
@[go_sem] theorem te129 : Tryz.prog.eqGuardType Tryz.prog.depth 129 = false := by kernel_rfl
@[go_sem] theorem ts129 : Tryz.prog.stoodInHeld 129 = false := by kernel_rfl
attribute [go_sem] Tryz.underlying130
@[go_sem] theorem tc130 : Tryz.prog.cellsOf 130 = 6 := by kernel_rfl
@[go_sem] theorem tb130 : Tryz.prog.bytesOf 130 = 56 := by kernel_rfl
@[go_sem] theorem tz130 : pz Tryz.prog 130 = some [.v (.int .i64 0), .v (.int .i64 0), .v (.int .i64 0), .v (.string ⟨#[]⟩), .v (.int .i64 0), .v (.int .i64 0)] := by kernel_rfl
@[go_sem] theorem te130 : Tryz.prog.eqGuardType Tryz.prog.depth 130 = false := by kernel_rfl
@[go_sem] theorem ts130 : Tryz.prog.stoodInHeld 130 = false := by kernel_rfl
attribute [go_sem] Tryz.underlying134
@[go_sem] theorem tc134 : Tryz.prog.cellsOf 134 = 4 := by kernel_rfl
@[go_sem] theorem tb134 : Tryz.prog.bytesOf 134 = 32 := by kernel_rfl
@[go_sem] theorem tz134 : pz Tryz.prog 134 = some [.v (.int .i64 0), .v (.int .i64 0), .v (.int .i64 0), .v (.int .i64 0)] := by kernel_rfl
@[go_sem] theorem te134 : Tryz.prog.eqGuardType Tryz.prog.depth 134 = false := by kernel_rfl
@[go_sem] theorem ts134 : Tryz.prog.stoodInHeld 134 = false := by kernel_rfl
attribute [go_sem] Tryz.underlying135
@[go_sem] theorem tc135 : Tryz.prog.cellsOf 135 = 4 := by kernel_rfl
@[go_sem] theorem tb135 : Tryz.prog.bytesOf 135 = 32 := by kernel_rfl
@[go_sem] theorem tz135 : pz Tryz.prog 135 = some [.v (.int .i64 0), .v (.int .i64 0), .v (.int .i64 0), .v (.int .i64 0)] := by kernel_rfl
@[go_sem] theorem te135 : Tryz.prog.eqGuardType Tryz.prog.depth 135 = false := by kernel_rfl
@[go_sem] theorem ts135 : Tryz.prog.stoodInHeld 135 = false := by kernel_rfl
attribute [go_sem] Tryz.underlying159
@[go_sem] theorem tc159 : Tryz.prog.cellsOf 159 = 2 := by kernel_rfl
@[go_sem] theorem tb159 : Tryz.prog.bytesOf 159 = 24 := by kernel_rfl
@[go_sem] theorem tz159 : pz Tryz.prog 159 = some [.v (.string ⟨#[]⟩), .v (.int .i64 0)] := by kernel_rfl
@[go_sem] theorem te159 : Tryz.prog.eqGuardType Tryz.prog.depth 159 = false := by kernel_rfl
@[go_sem] theorem ts159 : Tryz.prog.stoodInHeld 159 = false := by kernel_rfl
attribute [go_sem] Tryz.underlying160
@[go_sem] theorem tc160 : Tryz.prog.cellsOf 160 = 2 := by kernel_rfl
@[go_sem] theorem tb160 : Tryz.prog.bytesOf 160 = 24 := by kernel_rfl
@[go_sem] theorem tz160 : pz Tryz.prog 160 = some [.v (.string ⟨#[]⟩), .v (.int .i64 0)] := by kernel_rfl
@[go_sem] theorem te160 : Tryz.prog.eqGuardType Tryz.prog.depth 160 = false := by kernel_rfl
@[go_sem] theorem ts160 : Tryz.prog.stoodInHeld 160 = false := by kernel_rfl
attribute [go_sem] Tryz.underlying161
@[go_sem] theorem tc161 : Tryz.prog.cellsOf 161 = 15 := by kernel_rfl
@[go_sem] theorem tb161 : Tryz.prog.bytesOf 161 = 168 := by kernel_rfl
@[go_sem] theorem tz161 : pz Tryz.prog 161 = some [.v (.slice none 0 0), .v (.slice none 0 0), .v (.int .i64 0), .v (.int .i64 0), .v (.bool false), .v (.string ⟨#[]⟩), .v (.int .i64 0), .v (.int .i64 0), .v (.bool false), .v (.bool false), .v (.string ⟨#[]⟩), .v (.int .i64 0), .v (.string ⟨#[]⟩), .v (.int .i64 0), .v (.bool false)] := by kernel_rfl
@[go_sem] theorem te161 : Tryz.prog.eqGuardType Tryz.prog.depth 161 = false := by kernel_rfl
@[go_sem] theorem ts161 : Tryz.prog.stoodInHeld 161 = false := by kernel_rfl
attribute [go_sem] Tryz.underlying162
@[go_sem] theorem tc162 : Tryz.prog.cellsOf 162 = 15 := by kernel_rfl
@[go_sem] theorem tb162 : Tryz.prog.bytesOf 162 = 168 := by kernel_rfl
@[go_sem] theorem tz162 : pz Tryz.prog 162 = some [.v (.slice none 0 0), .v (.slice none 0 0), .v (.int .i64 0), .v (.int .i64 0), .v (.bool false), .v (.string ⟨#[]⟩), .v (.int .i64 0), .v (.int .i64 0), .v (.bool false), .v (.bool false), .v (.string ⟨#[]⟩), .v (.int .i64 0), .v (.string ⟨#[]⟩), .v (.int .i64 0), .v (.bool false)] := by kernel_rfl
@[go_sem] theorem te162 : Tryz.prog.eqGuardType Tryz.prog.depth 162 = false := by kernel_rfl
@[go_sem] theorem ts162 : Tryz.prog.stoodInHeld 162 = false := by kernel_rfl
attribute [go_sem] Tryz.underlying168
@[go_sem] theorem tc168 : Tryz.prog.cellsOf 168 = 11 := by kernel_rfl
@[go_sem] theorem tb168 : Tryz.prog.bytesOf 168 = 128 := by kernel_rfl
@[go_sem] theorem tz168 : pz Tryz.prog 168 = some [.v (.string ⟨#[]⟩), .v (.string ⟨#[]⟩), .v (.int .i64 0), .v (.int .i64 0), .v (.int .i64 0), .v (.int .i64 0), .v (.slice none 0 0), .v (.int .i64 0), .v (.int .i64 0), .v (.string ⟨#[]⟩), .v (.int .i64 0)] := by kernel_rfl
@[go_sem] theorem te168 : Tryz.prog.eqGuardType Tryz.prog.depth 168 = false := by kernel_rfl
@[go_sem] theorem ts168 : Tryz.prog.stoodInHeld 168 = false := by kernel_rfl
attribute [go_sem] Tryz.underlying169
@[go_sem] theorem tc169 : Tryz.prog.cellsOf 169 = 11 := by kernel_rfl
@[go_sem] theorem tb169 : Tryz.prog.bytesOf 169 = 128 := by kernel_rfl
@[go_sem] theorem tz169 : pz Tryz.prog 169 = some [.v (.string ⟨#[]⟩), .v (.string ⟨#[]⟩), .v (.int .i64 0), .v (.int .i64 0), .v (.int .i64 0), .v (.int .i64 0), .v (.slice none 0 0), .v (.int .i64 0), .v (.int .i64 0), .v (.string ⟨#[]⟩), .v (.int .i64 0)] := by kernel_rfl
@[go_sem] theorem te169 : Tryz.prog.eqGuardType Tryz.prog.depth 169 = false := by kernel_rfl
@[go_sem] theorem ts169 : Tryz.prog.stoodInHeld 169 = false := by kernel_rfl
attribute [go_sem] Tryz.underlying171
@[go_sem] theorem tc171 : Tryz.prog.cellsOf 171 = 6 := by kernel_rfl
@[go_sem] theorem tb171 : Tryz.prog.bytesOf 171 = 56 := by kernel_rfl
@[go_sem] theorem tz171 : pz Tryz.prog 171 = some [.v (.int .i64 0), .v (.int .i64 0), .v (.int .i64 0), .v (.string ⟨#[]⟩), .v (.int .i64 0), .v (.int .i64 0)] := by kernel_rfl
@[go_sem] theorem te171 : Tryz.prog.eqGuardType Tryz.prog.depth 171 = false := by kernel_rfl
@[go_sem] theorem ts171 : Tryz.prog.stoodInHeld 171 = false := by kernel_rfl
attribute [go_sem] Tryz.underlying172
@[go_sem] theorem tc172 : Tryz.prog.cellsOf 172 = 6 := by kernel_rfl
@[go_sem] theorem tb172 : Tryz.prog.bytesOf 172 = 56 := by kernel_rfl
@[go_sem] theorem tz172 : pz Tryz.prog 172 = some [.v (.int .i64 0), .v (.int .i64 0), .v (.int .i64 0), .v (.string ⟨#[]⟩), .v (.int .i64 0), .v (.int .i64 0)] := by kernel_rfl
@[go_sem] theorem te172 : Tryz.prog.eqGuardType Tryz.prog.depth 172 = false := by kernel_rfl
@[go_sem] theorem ts172 : Tryz.prog.stoodInHeld 172 = false := by kernel_rfl
attribute [go_sem] Tryz.underlying177
@[go_sem] theorem tc177 : Tryz.prog.cellsOf 177 = 4 := by kernel_rfl
@[go_sem] theorem tb177 : Tryz.prog.bytesOf 177 = 32 := by kernel_rfl
@[go_sem] theorem tz177 : pz Tryz.prog 177 = some [.v (.int .i64 0), .v (.int .i64 0), .v (.int .i64 0), .v (.int .i64 0)] := by kernel_rfl
@[go_sem] theorem te177 : Tryz.prog.eqGuardType Tryz.prog.depth 177 = false := by kernel_rfl
@[go_sem] theorem ts177 : Tryz.prog.stoodInHeld 177 = false := by kernel_rfl
attribute [go_sem] Tryz.underlying178
@[go_sem] theorem tc178 : Tryz.prog.cellsOf 178 = 4 := by kernel_rfl
@[go_sem] theorem tb178 : Tryz.prog.bytesOf 178 = 32 := by kernel_rfl
@[go_sem] theorem tz178 : pz Tryz.prog 178 = some [.v (.int .i64 0), .v (.int .i64 0), .v (.int .i64 0), .v (.int .i64 0)] := by kernel_rfl
@[go_sem] theorem te178 : Tryz.prog.eqGuardType Tryz.prog.depth 178 = false := by kernel_rfl
@[go_sem] theorem ts178 : Tryz.prog.stoodInHeld 178 = false := by kernel_rfl
attribute [go_sem] Tryz.underlying186
@[go_sem] theorem tc186 : Tryz.prog.cellsOf 186 = 3 := by kernel_rfl
@[go_sem] theorem tb186 : Tryz.prog.bytesOf 186 = 40 := by kernel_rfl
@[go_sem] theorem tz186 : pz Tryz.prog 186 = some [.v (.slice none 0 0), .v (.int .i64 0), .v (.int .i64 0)] := by kernel_rfl
@[go_sem] theorem te186 : Tryz.prog.eqGuardType Tryz.prog.depth 186 = false := by kernel_rfl
@[go_sem] theorem ts186 : Tryz.prog.stoodInHeld 186 = false := by kernel_rfl
attribute [go_sem] Tryz.underlying187
@[go_sem] theorem tc187 : Tryz.prog.cellsOf 187 = 3 := by kernel_rfl
@[go_sem] theorem tb187 : Tryz.prog.bytesOf 187 = 40 := by kernel_rfl
@[go_sem] theorem tz187 : pz Tryz.prog 187 = some [.v (.slice none 0 0), .v (.int .i64 0), .v (.int .i64 0)] := by kernel_rfl
@[go_sem] theorem te187 : Tryz.prog.eqGuardType Tryz.prog.depth 187 = false := by kernel_rfl
@[go_sem] theorem ts187 : Tryz.prog.stoodInHeld 187 = false := by kernel_rfl
attribute [go_sem] Tryz.underlying214
@[go_sem] theorem tc214 : Tryz.prog.cellsOf 214 = 1 := by kernel_rfl
@[go_sem] theorem tb214 : Tryz.prog.bytesOf 214 = 24 := by kernel_rfl
@[go_sem] theorem tz214 : pz Tryz.prog 214 = some [.v (.slice none 0 0)] := by kernel_rfl
@[go_sem] theorem tk214 : elemK Tryz.prog 214 = 1 := by kernel_rfl
attribute [go_sem] Tryz.underlying225
@[go_sem] theorem tc225 : Tryz.prog.cellsOf 225 = 6 := by kernel_rfl
@[go_sem] theorem tb225 : Tryz.prog.bytesOf 225 = 64 := by kernel_rfl
@[go_sem] theorem tz225 : pz Tryz.prog 225 = some [.v (.string ⟨#[]⟩), .v (.string ⟨#[]⟩), .v (.int .i64 0), .v (.int .i64 0), .v (.int .i64 0), .v (.int .i64 0)] := by kernel_rfl
@[go_sem] theorem te225 : Tryz.prog.eqGuardType Tryz.prog.depth 225 = false := by kernel_rfl
@[go_sem] theorem ts225 : Tryz.prog.stoodInHeld 225 = false := by kernel_rfl
attribute [go_sem] Tryz.underlying230
@[go_sem] theorem tc230 : Tryz.prog.cellsOf 230 = 1 := by kernel_rfl
@[go_sem] theorem tb230 : Tryz.prog.bytesOf 230 = 8 := by kernel_rfl
@[go_sem] theorem tz230 : pz Tryz.prog 230 = some [.v (.int .u64 0)] := by kernel_rfl
attribute [go_sem] Tryz.underlying271
@[go_sem] theorem tc271 : Tryz.prog.cellsOf 271 = 1 := by kernel_rfl
@[go_sem] theorem tb271 : Tryz.prog.bytesOf 271 = 4 := by kernel_rfl
@[go_sem] theorem tz271 : pz Tryz.prog 271 = some [.v (.int .u32 0)] := by kernel_rfl
attribute [go_sem] Tryz.underlying273
@[go_sem] theorem tc273 : Tryz.prog.cellsOf 273 = 1 := by kernel_rfl
@[go_sem] theorem tb273 : Tryz.prog.bytesOf 273 = 8 := by kernel_rfl
@[go_sem] theorem tz273 : pz Tryz.prog 273 = some [.v (.int .u64 0)] := by kernel_rfl
@[go_sem] theorem fn3 : isFn Tryz.prog 3 := ⟨_, Tryz.func3, rfl, by kernel_rfl⟩
@[go_sem] theorem fn4 : isFn Tryz.prog 4 := ⟨_, Tryz.func4, rfl, by kernel_rfl⟩
@[go_sem] theorem fn5 : isFn Tryz.prog 5 := ⟨_, Tryz.func5, rfl, by kernel_rfl⟩
@[go_sem] theorem fn6 : isFn Tryz.prog 6 := ⟨_, Tryz.func6, rfl, by kernel_rfl⟩
@[go_sem] theorem fn7 : isFn Tryz.prog 7 := ⟨_, Tryz.func7, rfl, by kernel_rfl⟩
@[go_sem] theorem fn8 : isFn Tryz.prog 8 := ⟨_, Tryz.func8, rfl, by kernel_rfl⟩
@[go_sem] theorem fn9 : isFn Tryz.prog 9 := ⟨_, Tryz.func9, rfl, by kernel_rfl⟩
@[go_sem] theorem fn10 : isFn Tryz.prog 10 := ⟨_, Tryz.func10, rfl, by kernel_rfl⟩
@[go_sem] theorem fn11 : isFn Tryz.prog 11 := ⟨_, Tryz.func11, rfl, by kernel_rfl⟩
@[go_sem] theorem fn12 : isFn Tryz.prog 12 := ⟨_, Tryz.func12, rfl, by kernel_rfl⟩
@[go_sem] theorem fn13 : isFn Tryz.prog 13 := ⟨_, Tryz.func13, rfl, by kernel_rfl⟩
@[go_sem] theorem fn14 : isFn Tryz.prog 14 := ⟨_, Tryz.func14, rfl, by kernel_rfl⟩
@[go_sem] theorem fn15 : isFn Tryz.prog 15 := ⟨_, Tryz.func15, rfl, by kernel_rfl⟩
@[go_sem] theorem fn16 : isFn Tryz.prog 16 := ⟨_, Tryz.func16, rfl, by kernel_rfl⟩
@[go_sem] theorem fn17 : isFn Tryz.prog 17 := ⟨_, Tryz.func17, rfl, by kernel_rfl⟩
@[go_sem] theorem fn18 : isFn Tryz.prog 18 := ⟨_, Tryz.func18, rfl, by kernel_rfl⟩
@[go_sem] theorem fn19 : isFn Tryz.prog 19 := ⟨_, Tryz.func19, rfl, by kernel_rfl⟩
@[go_sem] theorem fn20 : isFn Tryz.prog 20 := ⟨_, Tryz.func20, rfl, by kernel_rfl⟩
@[go_sem] theorem fn21 : isFn Tryz.prog 21 := ⟨_, Tryz.func21, rfl, by kernel_rfl⟩
@[go_sem] theorem fn22 : isFn Tryz.prog 22 := ⟨_, Tryz.func22, rfl, by kernel_rfl⟩
@[go_sem] theorem fn23 : isFn Tryz.prog 23 := ⟨_, Tryz.func23, rfl, by kernel_rfl⟩
@[go_sem] theorem fn24 : isFn Tryz.prog 24 := ⟨_, Tryz.func24, rfl, by kernel_rfl⟩
@[go_sem] theorem fn25 : isFn Tryz.prog 25 := ⟨_, Tryz.func25, rfl, by kernel_rfl⟩
@[go_sem] theorem fn26 : isFn Tryz.prog 26 := ⟨_, Tryz.func26, rfl, by kernel_rfl⟩
@[go_sem] theorem fn27 : isFn Tryz.prog 27 := ⟨_, Tryz.func27, rfl, by kernel_rfl⟩
@[go_sem] theorem fn28 : isFn Tryz.prog 28 := ⟨_, Tryz.func28, rfl, by kernel_rfl⟩
@[go_sem] theorem fn29 : isFn Tryz.prog 29 := ⟨_, Tryz.func29, rfl, by kernel_rfl⟩
@[go_sem] theorem fn30 : isFn Tryz.prog 30 := ⟨_, Tryz.func30, rfl, by kernel_rfl⟩
@[go_sem] theorem fn31 : isFn Tryz.prog 31 := ⟨_, Tryz.func31, rfl, by kernel_rfl⟩
@[go_sem] theorem fn32 : isFn Tryz.prog 32 := ⟨_, Tryz.func32, rfl, by kernel_rfl⟩
@[go_sem] theorem fn33 : isFn Tryz.prog 33 := ⟨_, Tryz.func33, rfl, by kernel_rfl⟩
@[go_sem] theorem fn34 : isFn Tryz.prog 34 := ⟨_, Tryz.func34, rfl, by kernel_rfl⟩
@[go_sem] theorem fn35 : isFn Tryz.prog 35 := ⟨_, Tryz.func35, rfl, by kernel_rfl⟩
@[go_sem] theorem fn36 : isFn Tryz.prog 36 := ⟨_, Tryz.func36, rfl, by kernel_rfl⟩
@[go_sem] theorem fn37 : isFn Tryz.prog 37 := ⟨_, Tryz.func37, rfl, by kernel_rfl⟩
@[go_sem] theorem fn38 : isFn Tryz.prog 38 := ⟨_, Tryz.func38, rfl, by kernel_rfl⟩
@[go_sem] theorem fn39 : isFn Tryz.prog 39 := ⟨_, Tryz.func39, rfl, by kernel_rfl⟩
@[go_sem] theorem fn40 : isFn Tryz.prog 40 := ⟨_, Tryz.func40, rfl, by kernel_rfl⟩
@[go_sem] theorem fn41 : isFn Tryz.prog 41 := ⟨_, Tryz.func41, rfl, by kernel_rfl⟩
@[go_sem] theorem fn42 : isFn Tryz.prog 42 := ⟨_, Tryz.func42, rfl, by kernel_rfl⟩
@[go_sem] theorem fn43 : isFn Tryz.prog 43 := ⟨_, Tryz.func43, rfl, by kernel_rfl⟩
@[go_sem] theorem fn44 : isFn Tryz.prog 44 := ⟨_, Tryz.func44, rfl, by kernel_rfl⟩
@[go_sem] theorem fn45 : isFn Tryz.prog 45 := ⟨_, Tryz.func45, rfl, by kernel_rfl⟩
@[go_sem] theorem fn46 : isFn Tryz.prog 46 := ⟨_, Tryz.func46, rfl, by kernel_rfl⟩
@[go_sem] theorem fn47 : isFn Tryz.prog 47 := ⟨_, Tryz.func47, rfl, by kernel_rfl⟩
@[go_sem] theorem fn48 : isFn Tryz.prog 48 := ⟨_, Tryz.func48, rfl, by kernel_rfl⟩
@[go_sem] theorem fn49 : isFn Tryz.prog 49 := ⟨_, Tryz.func49, rfl, by kernel_rfl⟩
@[go_sem] theorem fn50 : isFn Tryz.prog 50 := ⟨_, Tryz.func50, rfl, by kernel_rfl⟩
@[go_sem] theorem fn51 : isFn Tryz.prog 51 := ⟨_, Tryz.func51, rfl, by kernel_rfl⟩
@[go_sem] theorem fn52 : isFn Tryz.prog 52 := ⟨_, Tryz.func52, rfl, by kernel_rfl⟩
@[go_sem] theorem fn53 : isFn Tryz.prog 53 := ⟨_, Tryz.func53, rfl, by kernel_rfl⟩
@[go_sem] theorem fn54 : isFn Tryz.prog 54 := ⟨_, Tryz.func54, rfl, by kernel_rfl⟩
@[go_sem] theorem fn55 : isFn Tryz.prog 55 := ⟨_, Tryz.func55, rfl, by kernel_rfl⟩
@[go_sem] theorem fn56 : isFn Tryz.prog 56 := ⟨_, Tryz.func56, rfl, by kernel_rfl⟩
@[go_sem] theorem fn57 : isFn Tryz.prog 57 := ⟨_, Tryz.func57, rfl, by kernel_rfl⟩
@[go_sem] theorem fn58 : isFn Tryz.prog 58 := ⟨_, Tryz.func58, rfl, by kernel_rfl⟩
@[go_sem] theorem fn59 : isFn Tryz.prog 59 := ⟨_, Tryz.func59, rfl, by kernel_rfl⟩
@[go_sem] theorem fn60 : isFn Tryz.prog 60 := ⟨_, Tryz.func60, rfl, by kernel_rfl⟩
@[go_sem] theorem fn61 : isFn Tryz.prog 61 := ⟨_, Tryz.func61, rfl, by kernel_rfl⟩
@[go_sem] theorem fn62 : isFn Tryz.prog 62 := ⟨_, Tryz.func62, rfl, by kernel_rfl⟩
@[go_sem] theorem fn63 : isFn Tryz.prog 63 := ⟨_, Tryz.func63, rfl, by kernel_rfl⟩
@[go_sem] theorem fn64 : isFn Tryz.prog 64 := ⟨_, Tryz.func64, rfl, by kernel_rfl⟩
@[go_sem] theorem fn65 : isFn Tryz.prog 65 := ⟨_, Tryz.func65, rfl, by kernel_rfl⟩
@[go_sem] theorem fn66 : isFn Tryz.prog 66 := ⟨_, Tryz.func66, rfl, by kernel_rfl⟩
@[go_sem] theorem fn67 : isFn Tryz.prog 67 := ⟨_, Tryz.func67, rfl, by kernel_rfl⟩
@[go_sem] theorem fn68 : isFn Tryz.prog 68 := ⟨_, Tryz.func68, rfl, by kernel_rfl⟩
@[go_sem] theorem fn69 : isFn Tryz.prog 69 := ⟨_, Tryz.func69, rfl, by kernel_rfl⟩
@[go_sem] theorem fn70 : isFn Tryz.prog 70 := ⟨_, Tryz.func70, rfl, by kernel_rfl⟩
@[go_sem] theorem fn71 : isFn Tryz.prog 71 := ⟨_, Tryz.func71, rfl, by kernel_rfl⟩
@[go_sem] theorem fn72 : isFn Tryz.prog 72 := ⟨_, Tryz.func72, rfl, by kernel_rfl⟩
@[go_sem] theorem fn73 : isFn Tryz.prog 73 := ⟨_, Tryz.func73, rfl, by kernel_rfl⟩
@[go_sem] theorem fn74 : isFn Tryz.prog 74 := ⟨_, Tryz.func74, rfl, by kernel_rfl⟩
@[go_sem] theorem fn75 : isFn Tryz.prog 75 := ⟨_, Tryz.func75, rfl, by kernel_rfl⟩
@[go_sem] theorem fn76 : isFn Tryz.prog 76 := ⟨_, Tryz.func76, rfl, by kernel_rfl⟩
@[go_sem] theorem fn77 : isFn Tryz.prog 77 := ⟨_, Tryz.func77, rfl, by kernel_rfl⟩
@[go_sem] theorem fn78 : isFn Tryz.prog 78 := ⟨_, Tryz.func78, rfl, by kernel_rfl⟩
@[go_sem] theorem fn79 : isFn Tryz.prog 79 := ⟨_, Tryz.func79, rfl, by kernel_rfl⟩
@[go_sem] theorem fn80 : isFn Tryz.prog 80 := ⟨_, Tryz.func80, rfl, by kernel_rfl⟩
@[go_sem] theorem fn81 : isFn Tryz.prog 81 := ⟨_, Tryz.func81, rfl, by kernel_rfl⟩
@[go_sem] theorem fn82 : isFn Tryz.prog 82 := ⟨_, Tryz.func82, rfl, by kernel_rfl⟩
@[go_sem] theorem fn83 : isFn Tryz.prog 83 := ⟨_, Tryz.func83, rfl, by kernel_rfl⟩
@[go_sem] theorem fn84 : isFn Tryz.prog 84 := ⟨_, Tryz.func84, rfl, by kernel_rfl⟩
@[go_sem] theorem fn85 : isFn Tryz.prog 85 := ⟨_, Tryz.func85, rfl, by kernel_rfl⟩
@[go_sem] theorem fn86 : isFn Tryz.prog 86 := ⟨_, Tryz.func86, rfl, by kernel_rfl⟩
@[go_sem] theorem fn87 : isFn Tryz.prog 87 := ⟨_, Tryz.func87, rfl, by kernel_rfl⟩
@[go_sem] theorem fn88 : isFn Tryz.prog 88 := ⟨_, Tryz.func88, rfl, by kernel_rfl⟩
@[go_sem] theorem fn89 : isFn Tryz.prog 89 := ⟨_, Tryz.func89, rfl, by kernel_rfl⟩
@[go_sem] theorem fn90 : isFn Tryz.prog 90 := ⟨_, Tryz.func90, rfl, by kernel_rfl⟩
@[go_sem] theorem fn91 : isFn Tryz.prog 91 := ⟨_, Tryz.func91, rfl, by kernel_rfl⟩
@[go_sem] theorem fn92 : isFn Tryz.prog 92 := ⟨_, Tryz.func92, rfl, by kernel_rfl⟩
@[go_sem] theorem fn93 : isFn Tryz.prog 93 := ⟨_, Tryz.func93, rfl, by kernel_rfl⟩
@[go_sem] theorem fn94 : isFn Tryz.prog 94 := ⟨_, Tryz.func94, rfl, by kernel_rfl⟩
@[go_sem] theorem fn95 : isFn Tryz.prog 95 := ⟨_, Tryz.func95, rfl, by kernel_rfl⟩
@[go_sem] theorem fn96 : isFn Tryz.prog 96 := ⟨_, Tryz.func96, rfl, by kernel_rfl⟩
@[go_sem] theorem fn97 : isFn Tryz.prog 97 := ⟨_, Tryz.func97, rfl, by kernel_rfl⟩
@[go_sem] theorem fn98 : isFn Tryz.prog 98 := ⟨_, Tryz.func98, rfl, by kernel_rfl⟩
@[go_sem] theorem fn99 : isFn Tryz.prog 99 := ⟨_, Tryz.func99, rfl, by kernel_rfl⟩
@[go_sem] theorem fn100 : isFn Tryz.prog 100 := ⟨_, Tryz.func100, rfl, by kernel_rfl⟩
@[go_sem] theorem fn101 : isFn Tryz.prog 101 := ⟨_, Tryz.func101, rfl, by kernel_rfl⟩
@[go_sem] theorem fn102 : isFn Tryz.prog 102 := ⟨_, Tryz.func102, rfl, by kernel_rfl⟩
@[go_sem] theorem fn103 : isFn Tryz.prog 103 := ⟨_, Tryz.func103, rfl, by kernel_rfl⟩
@[go_sem] theorem fn104 : isFn Tryz.prog 104 := ⟨_, Tryz.func104, rfl, by kernel_rfl⟩
@[go_sem] theorem fn105 : isFn Tryz.prog 105 := ⟨_, Tryz.func105, rfl, by kernel_rfl⟩
@[go_sem] theorem fn106 : isFn Tryz.prog 106 := ⟨_, Tryz.func106, rfl, by kernel_rfl⟩
@[go_sem] theorem fn107 : isFn Tryz.prog 107 := ⟨_, Tryz.func107, rfl, by kernel_rfl⟩
@[go_sem] theorem fn108 : isFn Tryz.prog 108 := ⟨_, Tryz.func108, rfl, by kernel_rfl⟩
@[go_sem] theorem fn109 : isFn Tryz.prog 109 := ⟨_, Tryz.func109, rfl, by kernel_rfl⟩
@[go_sem] theorem fn110 : isFn Tryz.prog 110 := ⟨_, Tryz.func110, rfl, by kernel_rfl⟩
@[go_sem] theorem fn111 : isFn Tryz.prog 111 := ⟨_, Tryz.func111, rfl, by kernel_rfl⟩
@[go_sem] theorem fn112 : isFn Tryz.prog 112 := ⟨_, Tryz.func112, rfl, by kernel_rfl⟩
@[go_sem] theorem fn113 : isFn Tryz.prog 113 := ⟨_, Tryz.func113, rfl, by kernel_rfl⟩
@[go_sem] theorem fn114 : isFn Tryz.prog 114 := ⟨_, Tryz.func114, rfl, by kernel_rfl⟩
@[go_sem] theorem fn115 : isFn Tryz.prog 115 := ⟨_, Tryz.func115, rfl, by kernel_rfl⟩
@[go_sem] theorem fn116 : isFn Tryz.prog 116 := ⟨_, Tryz.func116, rfl, by kernel_rfl⟩
@[go_sem] theorem fn117 : isFn Tryz.prog 117 := ⟨_, Tryz.func117, rfl, by kernel_rfl⟩
@[go_sem] theorem fn118 : isFn Tryz.prog 118 := ⟨_, Tryz.func118, rfl, by kernel_rfl⟩
@[go_sem] theorem fn119 : isFn Tryz.prog 119 := ⟨_, Tryz.func119, rfl, by kernel_rfl⟩
@[go_sem] theorem fn120 : isFn Tryz.prog 120 := ⟨_, Tryz.func120, rfl, by kernel_rfl⟩
@[go_sem] theorem fn121 : isFn Tryz.prog 121 := ⟨_, Tryz.func121, rfl, by kernel_rfl⟩
@[go_sem] theorem fn122 : isFn Tryz.prog 122 := ⟨_, Tryz.func122, rfl, by kernel_rfl⟩
@[go_sem] theorem fn123 : isFn Tryz.prog 123 := ⟨_, Tryz.func123, rfl, by kernel_rfl⟩
@[go_sem] theorem fn124 : isFn Tryz.prog 124 := ⟨_, Tryz.func124, rfl, by kernel_rfl⟩
@[go_sem] theorem fn125 : isFn Tryz.prog 125 := ⟨_, Tryz.func125, rfl, by kernel_rfl⟩
@[go_sem] theorem fn126 : isFn Tryz.prog 126 := ⟨_, Tryz.func126, rfl, by kernel_rfl⟩
@[go_sem] theorem fn127 : isFn Tryz.prog 127 := ⟨_, Tryz.func127, rfl, by kernel_rfl⟩
@[go_sem] theorem fn128 : isFn Tryz.prog 128 := ⟨_, Tryz.func128, rfl, by kernel_rfl⟩
@[go_sem] theorem fn129 : isFn Tryz.prog 129 := ⟨_, Tryz.func129, rfl, by kernel_rfl⟩
@[go_sem] theorem fn130 : isFn Tryz.prog 130 := ⟨_, Tryz.func130, rfl, by kernel_rfl⟩
@[go_sem] theorem fn131 : isFn Tryz.prog 131 := ⟨_, Tryz.func131, rfl, by kernel_rfl⟩
@[go_sem] theorem fn132 : isFn Tryz.prog 132 := ⟨_, Tryz.func132, rfl, by kernel_rfl⟩
@[go_sem] theorem fn133 : isFn Tryz.prog 133 := ⟨_, Tryz.func133, rfl, by kernel_rfl⟩
@[go_sem] theorem fn134 : isFn Tryz.prog 134 := ⟨_, Tryz.func134, rfl, by kernel_rfl⟩
@[go_sem] theorem fn135 : isFn Tryz.prog 135 := ⟨_, Tryz.func135, rfl, by kernel_rfl⟩
@[go_sem] theorem fn136 : isFn Tryz.prog 136 := ⟨_, Tryz.func136, rfl, by kernel_rfl⟩
@[go_sem] theorem fn137 : isFn Tryz.prog 137 := ⟨_, Tryz.func137, rfl, by kernel_rfl⟩
@[go_sem] theorem fn138 : isFn Tryz.prog 138 := ⟨_, Tryz.func138, rfl, by kernel_rfl⟩
@[go_sem] theorem fn139 : isFn Tryz.prog 139 := ⟨_, Tryz.func139, rfl, by kernel_rfl⟩
@[go_sem] theorem fn140 : isFn Tryz.prog 140 := ⟨_, Tryz.func140, rfl, by kernel_rfl⟩
@[go_sem] theorem fn141 : isFn Tryz.prog 141 := ⟨_, Tryz.func141, rfl, by kernel_rfl⟩
@[go_sem] theorem fn142 : isFn Tryz.prog 142 := ⟨_, Tryz.func142, rfl, by kernel_rfl⟩
@[go_sem] theorem fn143 : isFn Tryz.prog 143 := ⟨_, Tryz.func143, rfl, by kernel_rfl⟩
@[go_sem] theorem fn144 : isFn Tryz.prog 144 := ⟨_, Tryz.func144, rfl, by kernel_rfl⟩
@[go_sem] theorem fn145 : isFn Tryz.prog 145 := ⟨_, Tryz.func145, rfl, by kernel_rfl⟩
@[go_sem] theorem fn146 : isFn Tryz.prog 146 := ⟨_, Tryz.func146, rfl, by kernel_rfl⟩
@[go_sem] theorem fn147 : isFn Tryz.prog 147 := ⟨_, Tryz.func147, rfl, by kernel_rfl⟩
@[go_sem] theorem fn148 : isFn Tryz.prog 148 := ⟨_, Tryz.func148, rfl, by kernel_rfl⟩
@[go_sem] theorem fn149 : isFn Tryz.prog 149 := ⟨_, Tryz.func149, rfl, by kernel_rfl⟩
@[go_sem] theorem fn150 : isFn Tryz.prog 150 := ⟨_, Tryz.func150, rfl, by kernel_rfl⟩
@[go_sem] theorem fn151 : isFn Tryz.prog 151 := ⟨_, Tryz.func151, rfl, by kernel_rfl⟩
@[go_sem] theorem fn152 : isFn Tryz.prog 152 := ⟨_, Tryz.func152, rfl, by kernel_rfl⟩
@[go_sem] theorem fn153 : isFn Tryz.prog 153 := ⟨_, Tryz.func153, rfl, by kernel_rfl⟩
@[go_sem] theorem fn154 : isFn Tryz.prog 154 := ⟨_, Tryz.func154, rfl, by kernel_rfl⟩
@[go_sem] theorem fn155 : isFn Tryz.prog 155 := ⟨_, Tryz.func155, rfl, by kernel_rfl⟩
@[go_sem] theorem fn156 : isFn Tryz.prog 156 := ⟨_, Tryz.func156, rfl, by kernel_rfl⟩
@[go_sem] theorem fn157 : isFn Tryz.prog 157 := ⟨_, Tryz.func157, rfl, by kernel_rfl⟩
@[go_sem] theorem fn158 : isFn Tryz.prog 158 := ⟨_, Tryz.func158, rfl, by kernel_rfl⟩
@[go_sem] theorem fn159 : isFn Tryz.prog 159 := ⟨_, Tryz.func159, rfl, by kernel_rfl⟩
@[go_sem] theorem fn160 : isFn Tryz.prog 160 := ⟨_, Tryz.func160, rfl, by kernel_rfl⟩
@[go_sem] theorem fn161 : isFn Tryz.prog 161 := ⟨_, Tryz.func161, rfl, by kernel_rfl⟩
@[go_sem] theorem fn162 : isFn Tryz.prog 162 := ⟨_, Tryz.func162, rfl, by kernel_rfl⟩
@[go_sem] theorem fn163 : isFn Tryz.prog 163 := ⟨_, Tryz.func163, rfl, by kernel_rfl⟩
@[go_sem] theorem fn164 : isFn Tryz.prog 164 := ⟨_, Tryz.func164, rfl, by kernel_rfl⟩
@[go_sem] theorem fn165 : isFn Tryz.prog 165 := ⟨_, Tryz.func165, rfl, by kernel_rfl⟩
@[go_sem] theorem fn166 : isFn Tryz.prog 166 := ⟨_, Tryz.func166, rfl, by kernel_rfl⟩
@[go_sem] theorem fn167 : isFn Tryz.prog 167 := ⟨_, Tryz.func167, rfl, by kernel_rfl⟩
@[go_sem] theorem fn168 : isFn Tryz.prog 168 := ⟨_, Tryz.func168, rfl, by kernel_rfl⟩
@[go_sem] theorem fn169 : isFn Tryz.prog 169 := ⟨_, Tryz.func169, rfl, by kernel_rfl⟩
@[go_sem] theorem fn170 : isFn Tryz.prog 170 := ⟨_, Tryz.func170, rfl, by kernel_rfl⟩
@[go_sem] theorem fn171 : isFn Tryz.prog 171 := ⟨_, Tryz.func171, rfl, by kernel_rfl⟩
@[go_sem] theorem fn172 : isFn Tryz.prog 172 := ⟨_, Tryz.func172, rfl, by kernel_rfl⟩
@[go_sem] theorem fn173 : isFn Tryz.prog 173 := ⟨_, Tryz.func173, rfl, by kernel_rfl⟩
@[go_sem] theorem fn174 : isFn Tryz.prog 174 := ⟨_, Tryz.func174, rfl, by kernel_rfl⟩
@[go_sem] theorem fn175 : isFn Tryz.prog 175 := ⟨_, Tryz.func175, rfl, by kernel_rfl⟩
@[go_sem] theorem fn176 : isFn Tryz.prog 176 := ⟨_, Tryz.func176, rfl, by kernel_rfl⟩
@[go_sem] theorem fn177 : isFn Tryz.prog 177 := ⟨_, Tryz.func177, rfl, by kernel_rfl⟩
@[go_sem] theorem fn178 : isFn Tryz.prog 178 := ⟨_, Tryz.func178, rfl, by kernel_rfl⟩
@[go_sem] theorem fn179 : isFn Tryz.prog 179 := ⟨_, Tryz.func179, rfl, by kernel_rfl⟩
@[go_sem] theorem fn180 : isFn Tryz.prog 180 := ⟨_, Tryz.func180, rfl, by kernel_rfl⟩
@[go_sem] theorem fn181 : isFn Tryz.prog 181 := ⟨_, Tryz.func181, rfl, by kernel_rfl⟩
@[go_sem] theorem fn182 : isFn Tryz.prog 182 := ⟨_, Tryz.func182, rfl, by kernel_rfl⟩
@[go_sem] theorem fn183 : isFn Tryz.prog 183 := ⟨_, Tryz.func183, rfl, by kernel_rfl⟩
@[go_sem] theorem fn184 : isFn Tryz.prog 184 := ⟨_, Tryz.func184, rfl, by kernel_rfl⟩
@[go_sem] theorem fn185 : isFn Tryz.prog 185 := ⟨_, Tryz.func185, rfl, by kernel_rfl⟩
@[go_sem] theorem fn186 : isFn Tryz.prog 186 := ⟨_, Tryz.func186, rfl, by kernel_rfl⟩
@[go_sem] theorem fn187 : isFn Tryz.prog 187 := ⟨_, Tryz.func187, rfl, by kernel_rfl⟩
@[go_sem] theorem fn188 : isFn Tryz.prog 188 := ⟨_, Tryz.func188, rfl, by kernel_rfl⟩
@[go_sem] theorem fn189 : isFn Tryz.prog 189 := ⟨_, Tryz.func189, rfl, by kernel_rfl⟩
@[go_sem] theorem fn190 : isFn Tryz.prog 190 := ⟨_, Tryz.func190, rfl, by kernel_rfl⟩
@[go_sem] theorem fn191 : isFn Tryz.prog 191 := ⟨_, Tryz.func191, rfl, by kernel_rfl⟩
@[go_sem] theorem fn192 : isFn Tryz.prog 192 := ⟨_, Tryz.func192, rfl, by kernel_rfl⟩
@[go_sem] theorem fn193 : isFn Tryz.prog 193 := ⟨_, Tryz.func193, rfl, by kernel_rfl⟩
@[go_sem] theorem fn194 : isFn Tryz.prog 194 := ⟨_, Tryz.func194, rfl, by kernel_rfl⟩
@[go_sem] theorem fn195 : isFn Tryz.prog 195 := ⟨_, Tryz.func195, rfl, by kernel_rfl⟩
@[go_sem] theorem fn196 : isFn Tryz.prog 196 := ⟨_, Tryz.func196, rfl, by kernel_rfl⟩
@[go_sem] theorem fn197 : isFn Tryz.prog 197 := ⟨_, Tryz.func197, rfl, by kernel_rfl⟩
@[go_sem] theorem fn198 : isFn Tryz.prog 198 := ⟨_, Tryz.func198, rfl, by kernel_rfl⟩
@[go_sem] theorem fn199 : isFn Tryz.prog 199 := ⟨_, Tryz.func199, rfl, by kernel_rfl⟩
@[go_sem] theorem fn201 : isFn Tryz.prog 201 := ⟨_, Tryz.func201, rfl, by kernel_rfl⟩
@[go_sem] theorem fn202 : isFn Tryz.prog 202 := ⟨_, Tryz.func202, rfl, by kernel_rfl⟩
@[go_sem] theorem fn203 : isFn Tryz.prog 203 := ⟨_, Tryz.func203, rfl, by kernel_rfl⟩
@[go_sem] theorem fn204 : isFn Tryz.prog 204 := ⟨_, Tryz.func204, rfl, by kernel_rfl⟩
@[go_sem] theorem fn205 : isFn Tryz.prog 205 := ⟨_, Tryz.func205, rfl, by kernel_rfl⟩
@[go_sem] theorem fn207 : isFn Tryz.prog 207 := ⟨_, Tryz.func207, rfl, by kernel_rfl⟩
@[go_sem] theorem fn208 : isFn Tryz.prog 208 := ⟨_, Tryz.func208, rfl, by kernel_rfl⟩
@[go_sem] theorem fn209 : isFn Tryz.prog 209 := ⟨_, Tryz.func209, rfl, by kernel_rfl⟩
@[go_sem] theorem fn210 : isFn Tryz.prog 210 := ⟨_, Tryz.func210, rfl, by kernel_rfl⟩
@[go_sem] theorem fn211 : isFn Tryz.prog 211 := ⟨_, Tryz.func211, rfl, by kernel_rfl⟩
@[go_sem] theorem fn212 : isFn Tryz.prog 212 := ⟨_, Tryz.func212, rfl, by kernel_rfl⟩
@[go_sem] theorem fn213 : isFn Tryz.prog 213 := ⟨_, Tryz.func213, rfl, by kernel_rfl⟩
@[go_sem] theorem fn214 : isFn Tryz.prog 214 := ⟨_, Tryz.func214, rfl, by kernel_rfl⟩
@[go_sem] theorem fn215 : isFn Tryz.prog 215 := ⟨_, Tryz.func215, rfl, by kernel_rfl⟩
@[go_sem] theorem fn216 : isFn Tryz.prog 216 := ⟨_, Tryz.func216, rfl, by kernel_rfl⟩
@[go_sem] theorem fn217 : isFn Tryz.prog 217 := ⟨_, Tryz.func217, rfl, by kernel_rfl⟩
@[go_sem] theorem fn218 : isFn Tryz.prog 218 := ⟨_, Tryz.func218, rfl, by kernel_rfl⟩
@[go_sem] theorem fn219 : isFn Tryz.prog 219 := ⟨_, Tryz.func219, rfl, by kernel_rfl⟩
@[go_sem] theorem fn220 : isFn Tryz.prog 220 := ⟨_, Tryz.func220, rfl, by kernel_rfl⟩
@[go_sem] theorem fn221 : isFn Tryz.prog 221 := ⟨_, Tryz.func221, rfl, by kernel_rfl⟩
@[go_sem] theorem fn222 : isFn Tryz.prog 222 := ⟨_, Tryz.func222, rfl, by kernel_rfl⟩
@[go_sem] theorem fn223 : isFn Tryz.prog 223 := ⟨_, Tryz.func223, rfl, by kernel_rfl⟩
@[go_sem] theorem fn224 : isFn Tryz.prog 224 := ⟨_, Tryz.func224, rfl, by kernel_rfl⟩
@[go_sem] theorem fn225 : isFn Tryz.prog 225 := ⟨_, Tryz.func225, rfl, by kernel_rfl⟩
@[go_sem] theorem fn226 : isFn Tryz.prog 226 := ⟨_, Tryz.func226, rfl, by kernel_rfl⟩
@[go_sem] theorem fn227 : isFn Tryz.prog 227 := ⟨_, Tryz.func227, rfl, by kernel_rfl⟩
@[go_sem] theorem fn228 : isFn Tryz.prog 228 := ⟨_, Tryz.func228, rfl, by kernel_rfl⟩
@[go_sem] theorem fn229 : isFn Tryz.prog 229 := ⟨_, Tryz.func229, rfl, by kernel_rfl⟩
@[go_sem] theorem fn230 : isFn Tryz.prog 230 := ⟨_, Tryz.func230, rfl, by kernel_rfl⟩
@[go_sem] theorem fn231 : isFn Tryz.prog 231 := ⟨_, Tryz.func231, rfl, by kernel_rfl⟩
@[go_sem] theorem fn232 : isFn Tryz.prog 232 := ⟨_, Tryz.func232, rfl, by kernel_rfl⟩
@[go_sem] theorem fn233 : isFn Tryz.prog 233 := ⟨_, Tryz.func233, rfl, by kernel_rfl⟩
@[go_sem] theorem fn234 : isFn Tryz.prog 234 := ⟨_, Tryz.func234, rfl, by kernel_rfl⟩
@[go_sem] theorem fn235 : isFn Tryz.prog 235 := ⟨_, Tryz.func235, rfl, by kernel_rfl⟩
@[go_sem] theorem fn236 : isFn Tryz.prog 236 := ⟨_, Tryz.func236, rfl, by kernel_rfl⟩
@[go_sem] theorem fn237 : isFn Tryz.prog 237 := ⟨_, Tryz.func237, rfl, by kernel_rfl⟩
@[go_sem] theorem fn238 : isFn Tryz.prog 238 := ⟨_, Tryz.func238, rfl, by kernel_rfl⟩
@[go_sem] theorem fn243 : isFn Tryz.prog 243 := ⟨_, Tryz.func243, rfl, by kernel_rfl⟩
@[go_sem] theorem fn244 : isFn Tryz.prog 244 := ⟨_, Tryz.func244, rfl, by kernel_rfl⟩
@[go_sem] theorem fn245 : isFn Tryz.prog 245 := ⟨_, Tryz.func245, rfl, by kernel_rfl⟩
@[go_sem] theorem fn247 : isFn Tryz.prog 247 := ⟨_, Tryz.func247, rfl, by kernel_rfl⟩
@[go_sem] theorem fn248 : isFn Tryz.prog 248 := ⟨_, Tryz.func248, rfl, by kernel_rfl⟩
@[go_sem] theorem fn249 : isFn Tryz.prog 249 := ⟨_, Tryz.func249, rfl, by kernel_rfl⟩
@[go_sem] theorem fn250 : isFn Tryz.prog 250 := ⟨_, Tryz.func250, rfl, by kernel_rfl⟩
@[go_sem] theorem fn251 : isFn Tryz.prog 251 := ⟨_, Tryz.func251, rfl, by kernel_rfl⟩
@[go_sem] theorem fn252 : isFn Tryz.prog 252 := ⟨_, Tryz.func252, rfl, by kernel_rfl⟩
@[go_sem] theorem fn253 : isFn Tryz.prog 253 := ⟨_, Tryz.func253, rfl, by kernel_rfl⟩
@[go_sem] theorem fn255 : isFn Tryz.prog 255 := ⟨_, Tryz.func255, rfl, by kernel_rfl⟩
@[go_sem] theorem fn256 : isFn Tryz.prog 256 := ⟨_, Tryz.func256, rfl, by kernel_rfl⟩
@[go_sem] theorem fn257 : isFn Tryz.prog 257 := ⟨_, Tryz.func257, rfl, by kernel_rfl⟩
@[go_sem] theorem fn258 : isFn Tryz.prog 258 := ⟨_, Tryz.func258, rfl, by kernel_rfl⟩
end Go.Proofs.YtmcdjilbkmhfoaaGreat
set_option linter.unusedVariables false
namespace Go.Proofs.YtmcdjilbkmhfoaaGreat
set_option maxRecDepth 10000
open Go.RowKit
abbrev cInt (x : Int) : List PV := [vi x]
abbrev cStr (x : ByteArray) : List PV := [vs x]
abbrev cBool (x : Bool) : List PV := [vb x]
@[ext] structure YLabel where
  service : Int
  serial : Int
  to_ : ByteArray
  deriving DecidableEq
abbrev cLabel (x : YLabel) : List PV := [vi x.service, vi x.serial, vs x.to_]
@[ext] structure YParcel where
  label : YLabel
  from_ : ByteArray
  weight : Int
  sides : List Int
  value : Int
  deriving DecidableEq
abbrev cParcel (x : YParcel) : List PV := [vi x.label.service, vi x.label.serial, vs x.label.to_, vs x.from_, vi x.weight, .sl (x.sides.map cInt), vi x.value]
@[ext] structure YZone where
  first : ByteArray
  last : ByteArray
  deriving DecidableEq
abbrev cZone (x : YZone) : List PV := [vs x.first, vs x.last]
@[ext] structure YRate where
  zone : Int
  service : Int
  limit : Int
  price : Int
  deriving DecidableEq
abbrev cRate (x : YRate) : List PV := [vi x.zone, vi x.service, vi x.limit, vi x.price]
@[ext] structure YLeg where
  from_ : ByteArray
  to_ : ByteArray
  start : Int
  takes : Int
  days : Int
  room : Int
  deriving DecidableEq
abbrev cLeg (x : YLeg) : List PV := [vs x.from_, vs x.to_, vi x.start, vi x.takes, vi x.days, vi x.room]
@[ext] structure YNetwork where
  legs : List YLeg
  off : List Int
  change : Int
  deriving DecidableEq
abbrev cNetwork (x : YNetwork) : List PV := [.sl (x.legs.map cLeg), .sl (x.off.map cInt), vi x.change]
@[ext] structure YTrip where
  leg : Int
  day : Int
  deriving DecidableEq
abbrev cTrip (x : YTrip) : List PV := [vi x.leg, vi x.day]
@[ext] structure YBooking where
  thing : Int
  trip : YTrip
  weight : Int
  deriving DecidableEq
abbrev cBooking (x : YBooking) : List PV := [vi x.thing, vi x.trip.leg, vi x.trip.day, vi x.weight]
@[ext] structure YScan where
  thing : Int
  at_ : Int
  kind : Int
  place : ByteArray
  trip : YTrip
  deriving DecidableEq
abbrev cScan (x : YScan) : List PV := [vi x.thing, vi x.at_, vi x.kind, vs x.place, vi x.trip.leg, vi x.trip.day]
@[ext] structure YOrder where
  from_ : ByteArray
  to_ : ByteArray
  service : Int
  weight : Int
  at_ : Int
  due : Int
  way : List YTrip
  gone : Int
  state : Int
  place : ByteArray
  ended : Int
  deriving DecidableEq
abbrev cOrder (x : YOrder) : List PV := [vs x.from_, vs x.to_, vi x.service, vi x.weight, vi x.at_, vi x.due, .sl (x.way.map cTrip), vi x.gone, vi x.state, vs x.place, vi x.ended]
@[ext] structure YWorld where
  network : YNetwork
  orders : List YOrder
  bookings : List YBooking
  closed : List YTrip
  now : Int
  scans : List YScan
  skip : List Int
  made : Int
  deriving DecidableEq
abbrev cWorld (x : YWorld) : List PV := [.sl (x.network.legs.map cLeg), .sl (x.network.off.map cInt), vi x.network.change, .sl (x.orders.map cOrder), .sl (x.bookings.map cBooking), .sl (x.closed.map cTrip), vi x.now, .sl (x.scans.map cScan), .sl (x.skip.map cInt), vi x.made]
@[ext] structure YLine where
  order : Int
  kind : Int
  amount : Int
  at_ : Int
  deriving DecidableEq
abbrev cLine (x : YLine) : List PV := [vi x.order, vi x.kind, vi x.amount, vi x.at_]
@[ext] structure YAct where
  kind : Int
  parcel : YParcel
  order : Int
  amount : Int
  until_ : Int
  trip : YTrip
  deriving DecidableEq
abbrev cAct (x : YAct) : List PV := [vi x.kind, vi x.parcel.label.service, vi x.parcel.label.serial, vs x.parcel.label.to_, vs x.parcel.from_, vi x.parcel.weight, .sl (x.parcel.sides.map cInt), vi x.parcel.value, vi x.order, vi x.amount, vi x.until_, vi x.trip.leg, vi x.trip.day]
@[ext] structure YOffice where
  world : YWorld
  zones : List YZone
  rates : List YRate
  percents : List Int
  parcels : List YParcel
  lines : List YLine
  journal : List YAct
  deriving DecidableEq
abbrev cOffice (x : YOffice) : List PV := [.sl (x.world.network.legs.map cLeg), .sl (x.world.network.off.map cInt), vi x.world.network.change, .sl (x.world.orders.map cOrder), .sl (x.world.bookings.map cBooking), .sl (x.world.closed.map cTrip), vi x.world.now, .sl (x.world.scans.map cScan), .sl (x.world.skip.map cInt), vi x.world.made, .sl (x.zones.map cZone), .sl (x.rates.map cRate), .sl (x.percents.map cInt), .sl (x.parcels.map cParcel), .sl (x.lines.map cLine), .sl (x.journal.map cAct)]
@[ext] structure YItem where
  id : Int
  dest : Int
  deriving DecidableEq
abbrev cItem (x : YItem) : List PV := [vi x.id, vi x.dest]
@[ext] structure YChute where
  cell : Int
  room : Int
  held : List YItem
  deriving DecidableEq
abbrev cChute (x : YChute) : List PV := [vi x.cell, vi x.room, .sl (x.held.map cItem)]
@[ext] structure YInlet where
  cell : Int
  wait : List YItem
  deriving DecidableEq
abbrev cInlet (x : YInlet) : List PV := [vi x.cell, .sl (x.wait.map cItem)]
@[ext] structure YCentre where
  belt : List YItem
  chutes : List YChute
  inlets : List YInlet
  plan : List Int
  now : Int
  deriving DecidableEq
abbrev cCentre (x : YCentre) : List PV := [.sl (x.belt.map cItem), .sl (x.chutes.map cChute), .sl (x.inlets.map cInlet), .sl (x.plan.map cInt), vi x.now]
@[ext] structure YThing where
  id : Int
  own : Int
  room : Int
  in_ : Int
  box : Bool
  sealed : Bool
  deriving DecidableEq
abbrev cThing (x : YThing) : List PV := [vi x.id, vi x.own, vi x.room, vi x.in_, vb x.box, vb x.sealed]
@[ext] structure YBelief where
  places : List ByteArray
  rides : List YTrip
  deriving DecidableEq
abbrev cBelief (x : YBelief) : List PV := [.sl (x.places.map cStr), .sl (x.rides.map cTrip)]
end Go.Proofs.YtmcdjilbkmhfoaaGreat
namespace Go.Proofs.YtmcdjilbkmhfoaaGreat
set_option maxRecDepth 10000
open Go.RowKit
set_option linter.unusedVariables false
set_option linter.unusedSimpArgs false
/-! What the rewriting need not go into. -/
@[congr] theorem cg_pops {P : Program} {ops : Array Oper} {K : List PV → Mem → Prop} {rest : List Oper} {t : List PV} {t' : List PV} {m : Mem} {m' : Mem} (h_t : t = t') (h_m : m = m') : pops P ops K rest t m = pops P ops K rest t' m' := by subst h_t h_m; rfl
@[congr] theorem cg_popsD {P : Program} {wd : Nat} {base : Nat} {fl : List Nat} {ops : Array Oper} {KD : List LE → List PV → Mem → Prop} {i : Nat} {rest : List Oper} {g : List LE} {g' : List LE} {t : List PV} {t' : List PV} {m : Mem} {m' : Mem} (h_t : t = t') (h_m : m = m') (h_g : g = g') : popsD P wd base fl ops KD i rest g t m = popsD P wd base fl ops KD i rest g' t' m' := by subst h_t h_m h_g; rfl
@[congr] theorem cg_nxt {P : Program} {ops : Array Oper} {K : List PV → Mem → Prop} {rest : List Oper} {t : List PV} {t' : List PV} {d : Option Tmp} {p : PV} {p' : PV} {m : Mem} {m' : Mem} (h_t : t = t') (h_p : p = p') (h_m : m = m') : nxt P ops K rest t d p m = nxt P ops K rest t' d p' m' := by subst h_t h_p h_m; rfl
@[congr] theorem cg_nxd {P : Program} {wd : Nat} {base : Nat} {fl : List Nat} {ops : Array Oper} {KD : List LE → List PV → Mem → Prop} {i : Nat} {rest : List Oper} {g : List LE} {g' : List LE} {t : List PV} {t' : List PV} {d : Option Tmp} {p : PV} {p' : PV} {m : Mem} {m' : Mem} (h_t : t = t') (h_p : p = p') (h_m : m = m') (h_g : g = g') : nxd P wd base fl ops KD i rest g t d p m = nxd P wd base fl ops KD i rest g' t' d p' m' := by subst h_t h_p h_m h_g; rfl
@[congr] theorem cg_rgo {P : Program} {ops : Array Oper} {K : List PV → Mem → Prop} {rest : List Oper} {d : Option Tmp} {o : Op} {m : Mem} {m' : Mem} {t : List PV} {t' : List PV} (h_m : m = m') (h_t : t = t') : rgo P ops K rest d o m t = rgo P ops K rest d o m' t' := by subst h_m h_t; rfl
@[congr] theorem cg_pgo {P : Program} {ops : Array Oper} {K : List PV → Mem → Prop} {rest : List Oper} {d : Option Tmp} {m : Mem} {m' : Mem} {t : List PV} {t' : List PV} (h_m : m = m') (h_t : t = t') : pgo P ops K rest d m t = pgo P ops K rest d m' t' := by subst h_m h_t; rfl
@[congr] theorem cg_rge {P : Program} {wd : Nat} {base : Nat} {fl : List Nat} {ops : Array Oper} {KD : List LE → List PV → Mem → Prop} {i : Nat} {rest : List Oper} {g : List LE} {oo : Oper} {m : Mem} {m' : Mem} {t : List PV} {t' : List PV} (h_m : m = m') (h_t : t = t') : rge P wd base fl ops KD i rest g oo m t = rge P wd base fl ops KD i rest g oo m' t' := by subst h_m h_t; rfl
@[congr] theorem cg_nxe {P : Program} {wd : Nat} {base : Nat} {fl : List Nat} {ops : Array Oper} {KD : List LE → List PV → Mem → Prop} {i : Nat} {rest : List Oper} {g : List LE} {oo : Oper} {ν ν' : Nat} {t t' : List PV} {ρ : List Nat} {p p' : PV} {m m' : Mem} (h_t : t = t') (h_p : p = p') (h_m : m = m') (h_n : ν = ν') : nxe P wd base fl ops KD i rest g oo ν t ρ p m = nxe P wd base fl ops KD i rest g oo ν' t' ρ p' m' := by subst h_t h_p h_m h_n; rfl
@[congr] theorem cg_popI {P : Program} {wd ν ν' : Nat} {o : Op} {t t' : List PV} {m m' : Mem} {K : List Nat → PV → Mem → Prop} (h_n : ν = ν') (h_t : t = t') (h_m : m = m') : popI P wd ν o t m K = popI P wd ν' o t' m' K := by subst h_n h_t h_m; rfl
@[congr] theorem cg_pIO {P : Program} {wd ν ν' : Nat} {f : FuncId} {ps ps' : List PV} {m m' : Mem} {K : List Nat → PV → Mem → Prop} (h_n : ν = ν') (h_p : ps = ps') (h_m : m = m') : pIO P wd ν f ps m K = pIO P wd ν' f ps' m' K := by subst h_n h_p h_m; rfl
@[congr] theorem cg_rgd {P : Program} {wd : Nat} {base : Nat} {fl : List Nat} {ops : Array Oper} {KD : List LE → List PV → Mem → Prop} {i : Nat} {rest : List Oper} {g : List LE} {oo : Oper} {m : Mem} {m' : Mem} {t : List PV} {t' : List PV} (h_m : m = m') (h_t : t = t') : rgd P wd base fl ops KD i rest g oo m t = rgd P wd base fl ops KD i rest g oo m' t' := by subst h_m h_t; rfl
@[congr] theorem cg_pgd {P : Program} {wd : Nat} {base : Nat} {fl : List Nat} {ops : Array Oper} {KD : List LE → List PV → Mem → Prop} {i : Nat} {rest : List Oper} {g : List LE} {oo : Oper} {m : Mem} {m' : Mem} {t : List PV} {t' : List PV} (h_m : m = m') (h_t : t = t') : pgd P wd base fl ops KD i rest g oo m t = pgd P wd base fl ops KD i rest g oo m' t' := by subst h_m h_t; rfl
@[congr] theorem cg_gate2 {b : Bool} {b' : Bool} {y : List PV → Prop} {n : List PV → Prop} {t : List PV} {t' : List PV} {i : Nat} (h_b : b = b') (h_t : t = t') : gate2 b y n t i = gate2 b' y n t' i := by subst h_b h_t; rfl
@[congr] theorem cg_gdV {p : PV} {p' : PV} {i : Nat} {t : List PV} {t' : List PV} {b : Bool} {y : List PV → Prop} {n : List PV → Prop} (h_p : p = p') (h_t : t = t') : gdV p i t b y n = gdV p' i t' b y n := by subst h_p h_t; rfl
@[congr] theorem cg_gd {d : Option Tmp} {t : List PV} {t' : List PV} {b : Bool} {y : List PV → Prop} {n : List PV → Prop} (h_t : t = t') : gd d t b y n = gd d t' b y n := by subst h_t; rfl
@[congr] theorem cg_pLoad {P : Program} {T : TypeId} {cs : Option (List PV)} {cs' : Option (List PV)} {K : PV → Prop} (h_cs : cs = cs') : pLoad P T cs K = pLoad P T cs' K := by subst h_cs; rfl
@[congr] theorem cg_pBin {P : Program} {op : BinOp} {T : TypeId} {x : PV} {x' : PV} {y : PV} {y' : PV} {K : PV → Prop} (h_x : x = x') (h_y : y = y') : pBin P op T x y K = pBin P op T x' y' K := by subst h_x h_y; rfl
@[congr] theorem cg_pUn {op : UnOp} {x : PV} {x' : PV} {K : PV → Prop} (h_x : x = x') : pUn op x K = pUn op x' K := by subst h_x; rfl
@[congr] theorem cg_pConvM {P : Program} {m : Mem} {m' : Mem} {T : TypeId} {U : TypeId} {x : PV} {x' : PV} {K : PV → Prop} (h_m : m = m') (h_x : x = x') : pConvM P m T U x K = pConvM P m' T U x' K := by subst h_m h_x; rfl
@[congr] theorem cg_pSlice {P : Program} {m : Mem} {m' : Mem} {T : TypeId} {x : PV} {x' : PV} {lo : Option PV} {lo' : Option PV} {hi : Option PV} {hi' : Option PV} {K : PV → Prop} (h_m : m = m') (h_x : x = x') (h_lo : lo = lo') (h_hi : hi = hi') : pSlice P m T x lo hi K = pSlice P m' T x' lo' hi' K := by subst h_m h_x h_lo h_hi; rfl
@[congr] theorem cg_pFieldAddr {P : Program} {m : Mem} {m' : Mem} {T : TypeId} {x : PV} {x' : PV} {i : Nat} {K : PV → Prop} (h_m : m = m') (h_x : x = x') : pFieldAddr P m T x i K = pFieldAddr P m' T x' i K := by subst h_m h_x; rfl
@[congr] theorem cg_pField {P : Program} {T : TypeId} {x : PV} {x' : PV} {i : Nat} {K : PV → Prop} (h_x : x = x') : pField P T x i K = pField P T x' i K := by subst h_x; rfl
@[congr] theorem cg_pIndexAddr {P : Program} {m : Mem} {m' : Mem} {T : TypeId} {x : PV} {x' : PV} {y : PV} {y' : PV} {K : PV → Prop} (h_m : m = m') (h_x : x = x') (h_y : y = y') : pIndexAddr P m T x y K = pIndexAddr P m' T x' y' K := by subst h_m h_x h_y; rfl
@[congr] theorem cg_pIndex {P : Program} {T : TypeId} {x : PV} {x' : PV} {y : PV} {y' : PV} {K : PV → Prop} (h_x : x = x') (h_y : y = y') : pIndex P T x y K = pIndex P T x' y' K := by subst h_x h_y; rfl
@[congr] theorem cg_pExt {i : Nat} {x : PV} {x' : PV} {K : PV → Prop} (h_x : x = x') : pExt i x K = pExt i x' K := by subst h_x; rfl
@[congr] theorem cg_pBuild {P : Program} {T : TypeId} {ps : List (Nat × PV)} {ps' : List (Nat × PV)} {K : PV → Prop} (h_ps : ps = ps') : pBuild P T ps K = pBuild P T ps' K := by subst h_ps; rfl
@[congr] theorem cg_pLen {P : Program} {m : Mem} {m' : Mem} {T : TypeId} {x : PV} {x' : PV} {K : PV → Prop} (h_m : m = m') (h_x : x = x') : pLen P m T x K = pLen P m' T x' K := by subst h_m h_x; rfl
@[congr] theorem cg_pMinMax {b : Bool} {ps : List PV} {ps' : List PV} {K : PV → Prop} (h_ps : ps = ps') : pMinMax b ps K = pMinMax b ps' K := by subst h_ps; rfl
@[congr] theorem cg_optK {ov : Option Value} {ov' : Option Value} {K : PV → Prop} (h_ov : ov = ov') : optK ov K = optK ov' K := by subst h_ov; rfl
@[congr] theorem cg_eqK {P : Program} {op : BinOp} {T : TypeId} {cs : List PV} {cs' : List PV} {ds : List PV} {ds' : List PV} {K : PV → Prop} (h_cs : cs = cs') (h_ds : ds = ds') : eqK P op T cs ds K = eqK P op T cs' ds' K := by subst h_cs h_ds; rfl
@[congr] theorem cg_pNil {m : Mem} {m' : Mem} {x : PV} {x' : PV} {K : PV → Prop} (h_m : m = m') (h_x : x = x') : pNil m x K = pNil m' x' K := by subst h_m h_x; rfl
@[congr] theorem cg_pPick {x : PV} {x' : PV} {y : PV} {y' : PV} {z : PV} {z' : PV} {K : PV → Prop} (h_x : x = x') (h_y : y = y') (h_z : z = z') : pPick x y z K = pPick x' y' z' K := by subst h_x h_y h_z; rfl
@[congr] theorem cg_pCall {P : Program} {io : Bool} {wd : Nat} {nu : Nat} {nu' : Nat} {f : FuncId} {ps : List PV} {ps' : List PV} {m : Mem} {m' : Mem} {KA : PV → Mem → Prop} (h_ps : ps = ps') (h_m : m = m') (h_nu : nu = nu') : pCall P io wd nu f ps m KA = pCall P io wd nu' f ps' m' KA := by subst h_ps h_m h_nu; rfl
@[congr] theorem cg_pBox {nu : Nat} {nu' : Nat} {m : Mem} {m' : Mem} {T : TypeId} {ocs : Option (List PV)} {ocs' : Option (List PV)} {KA : PV → Mem → Prop} (h_nu : nu = nu') (h_m : m = m') (h_ocs : ocs = ocs') : pBox nu m T ocs KA = pBox nu' m' T ocs' KA := by subst h_nu h_m h_ocs; rfl
@[congr] theorem cg_pBuildSlice {P : Program} {nu : Nat} {nu' : Nat} {m : Mem} {m' : Mem} {T : TypeId} {k : Nat} {ps : List (Nat × PV)} {ps' : List (Nat × PV)} {KA : PV → Mem → Prop} (h_nu : nu = nu') (h_m : m = m') (h_ps : ps = ps') : pBuildSlice P nu m T k ps KA = pBuildSlice P nu' m' T k ps' KA := by subst h_nu h_m h_ps; rfl
@[congr] theorem cg_pMake {P : Program} {nu : Nat} {nu' : Nat} {m : Mem} {m' : Mem} {T : TypeId} {x : PV} {x' : PV} {y : PV} {y' : PV} {KA : PV → Mem → Prop} (h_nu : nu = nu') (h_m : m = m') (h_x : x = x') (h_y : y = y') : pMake P nu m T x y KA = pMake P nu' m' T x' y' KA := by subst h_nu h_m h_x h_y; rfl
@[congr] theorem cg_pStore {P : Program} {m : Mem} {m' : Mem} {T : TypeId} {x : PV} {x' : PV} {y : PV} {y' : PV} {KA : PV → Mem → Prop} (h_m : m = m') (h_x : x = x') (h_y : y = y') : pStore P m T x y KA = pStore P m' T x' y' KA := by subst h_m h_x h_y; rfl
@[congr] theorem cg_pAppend {P : Program} {nu : Nat} {nu' : Nat} {m : Mem} {m' : Mem} {T : TypeId} {x : PV} {x' : PV} {y : PV} {y' : PV} {KA : PV → Mem → Prop} (h_nu : nu = nu') (h_m : m = m') (h_x : x = x') (h_y : y = y') : pAppend P nu m T x y KA = pAppend P nu' m' T x' y' KA := by subst h_nu h_m h_x h_y; rfl
@[congr] theorem cg_pDyn {P : Program} {io : Bool} {wd : Nat} {nu : Nat} {nu' : Nat} {p : PV} {p' : PV} {ps : List PV} {ps' : List PV} {m : Mem} {m' : Mem} {KA : PV → Mem → Prop} (h_nu : nu = nu') (h_p : p = p') (h_ps : ps = ps') (h_m : m = m') : pDyn P io wd nu p ps m KA = pDyn P io wd nu' p' ps' m' KA := by subst h_nu h_p h_ps h_m; rfl
@[congr] theorem cg_popA {P : Program} {io : Bool} {wd : Nat} {nu : Nat} {nu' : Nat} {o : Op} {t : List PV} {t' : List PV} {m : Mem} {m' : Mem} {KA : PV → Mem → Prop} (h_nu : nu = nu') (h_t : t = t') (h_m : m = m') : popA P io wd nu o t m KA = popA P io wd nu' o t' m' KA := by subst h_nu h_t h_m; rfl
@[congr] theorem cg_endD {ops2 : List Oper} {K : List PV → Mem → Prop} {g : List LE} {t : List PV} {t' : List PV} {m : Mem} {m' : Mem} (h_t : t = t') (h_m : m = m') : endD ops2 K g t m = endD ops2 K g t' m' := by subst h_t h_m; rfl
@[congr] theorem cg_pwp {P : Program} {n0 : Nat} {code : Code} {Q : Exit → List PV → Mem → Prop} {t : List PV} {t' : List PV} {m : Mem} {m' : Mem} (h_t : t = t') (h_m : m = m') : pwp P n0 code Q t m = pwp P n0 code Q t' m' := by subst h_t h_m; rfl
@[congr] theorem cg_thenP {K : List PV → Mem → Prop} {Q : Exit → List PV → Mem → Prop} {e : Exit} {e' : Exit} {t : List PV} {t' : List PV} {m : Mem} {m' : Mem} (h_t : t = t') (h_m : m = m') (h_e : e = e') : thenP K Q e t m = thenP K Q e' t' m' := by subst h_t h_m h_e; rfl
@[congr] theorem cg_blockP {id : Nat} {Q : Exit → List PV → Mem → Prop} {e : Exit} {e' : Exit} {t : List PV} {t' : List PV} {m : Mem} {m' : Mem} (h_t : t = t') (h_m : m = m') (h_e : e = e') : blockP id Q e t m = blockP id Q e' t' m' := by subst h_t h_m h_e; rfl
class EncOf (α : Type) where
  c : α → List PV
instance : EncOf Int := ⟨cInt⟩
instance : EncOf ByteArray := ⟨cStr⟩
instance : EncOf Bool := ⟨cBool⟩
section
variable {P : Program} {n0 : Nat} {Q : Exit → List PV → Mem → Prop} {t t' : List PV} {m m' : Mem} {K : List PV → Mem → Prop} {KR : PV → Prop} {KA : PV → Mem → Prop}
theorem HexL {σ ο β : Type} {s : σ} {F : σ → Option β} {K : ο → Option β} {r : β} (h : (some (Sum.inl s)).bind (selim F K) = some r) : F s = some r := h
theorem bexR {σ ο β : Type} {o : ο} {F : σ → Option β} {K : ο → Option β} : (some (Sum.inr o)).bind (selim F K) = K o := nrfl rfl
theorem bsr {α β γ δ : Type} {o : β} {F : α → Option γ} {G : β → Option γ} {K : γ → Option δ} : (selim F G (Sum.inr o)).bind K = (G o).bind K := nrfl rfl
theorem bsl {α β γ δ : Type} {o : α} {F : α → Option γ} {G : β → Option γ} {K : γ → Option δ} : (selim F G (Sum.inl o)).bind K = (F o).bind K := nrfl rfl
theorem Hc1k {α β : Type} {G : Prop} {b : Bool} {A B : Option α} {K : α → Option β} {r : β} (h : (cond b A B).bind K = some r) (hb : b = true) (k : A.bind K = some r → G) : G := k (Hc1 h hb)
theorem Hc2k {α β : Type} {G : Prop} {b : Bool} {A B : Option α} {K : α → Option β} {r : β} (h : (cond b A B).bind K = some r) (hb : b = false) (k : B.bind K = some r → G) : G := k (Hc2 h hb)
theorem gateS {c : Bool} {y n : List PV → Prop} {i : Nat} (h : gate2 c y n t i) : gate2 c y n t i := h
theorem idxS {T : TypeId} {es : List (List PV)} {i : PV} (h : pIndexAddr P m T (.sl es) i KR) : pIndexAddr P m T (.sl es) i KR := h
def mkOk (n bytes : Int) : Bool := decide (0 ≤ n ∧ n ≤ 1099511627776 ∧ bytes * n ≤ 140737488355328)
theorem mkS {T : TypeId} {ν : Nat} {x y : PV} (h : pMake P ν m T x y KA) : pMake P ν m T x y KA := h
theorem make_b {T e k ν : Nat} {n b : Int} {zc : List PV} (hok : mkOk n b = true) (hu : P.underlying T = some (.slice e)) (hz : pz P e = some zc) (hb : (P.bytesOf e : Int) = b) (hc : P.cellsOf e = k) (hzl : zc.length = k) (hp : decide (0 < k) = true) (hK : KA (.ms ν) (mput m ν ⟨e, k, List.replicate n.toNat zc⟩)) : pMake P ν m T (vi n) (vi n) KA := by
  subst hb hc
  have hok' := of_decide_eq_true hok
  simp only [pMake, hu, hz]
  exact ⟨trivial, hok'.1, of_decide_eq_true hp, hzl, hok'.2.1, hok'.2.2, hK⟩
theorem cutL_refl {ρ : Nat → Option Nat} : ∀ {cs : List PV}, (∀ q ∈ cs, isC q = true) → cutL ρ m m' cs cs
  | [], _ => trivial
  | c :: cs, h => ⟨.c c (h c List.mem_cons_self), cutL_refl fun q hq => h q (List.mem_cons_of_mem _ hq)⟩
theorem cutE_map {α : Type} {f : α → List PV} [hf : PlainC f] {ρ : Nat → Option Nat} : ∀ {xs : List α}, cutE ρ m m' (xs.map f) (xs.map f)
  | [] => trivial
  | x :: xs => ⟨cutL_refl (hf.h x), cutE_map⟩
theorem cutE_set {α : Type} {f : α → List PV} [hf : PlainC f] {ρ : Nat → Option Nat} {cs : List PV} {x : α} (h : cutL ρ m m' cs (f x)) : ∀ {xs : List α} {n : Nat}, cutE ρ m m' ((xs.map f).set n cs) ((xs.set n x).map f)
  | [], _ => trivial
  | y :: ys, 0 => ⟨h, cutE_map⟩
  | y :: ys, n + 1 => ⟨cutL_refl (hf.h y), cutE_set h⟩
theorem cutE_rep {α : Type} {f : α → List PV} {ρ : Nat → Option Nat} {cs : List PV} {x : α} (h : cutL ρ m m' cs (f x)) : ∀ {n : Nat}, cutE ρ m m' (List.replicate n cs) ((List.replicate n x).map f)
  | 0 => trivial
  | n + 1 => ⟨h, cutE_rep h⟩
theorem cutE_snoc {α : Type} {f : α → List PV} [hf : PlainC f] {ρ : Nat → Option Nat} {cs : List PV} {x : α} (h : cutL ρ m m' cs (f x)) : ∀ {xs : List α}, cutE ρ m m' (xs.map f ++ [cs]) ((xs ++ [x]).map f)
  | [] => ⟨h, trivial⟩
  | y :: ys => ⟨cutL_refl (hf.h y), cutE_snoc h⟩
theorem cutB_set {α : Type} {f : α → List PV} [PlainC f] {ρ : Nat → Option Nat} {T k n : Nat} {cs : List PV} {x : α} {xs : List α} (h : cutL ρ m m' cs (f x)) : cutB ρ m m' ⟨T, k, (xs.map f).set n cs⟩ ⟨T, k, (xs.set n x).map f⟩ := ⟨rfl, rfl, .inr (cutE_set h)⟩
theorem cutB_rep {α : Type} {f : α → List PV} {ρ : Nat → Option Nat} {T k n : Nat} {cs : List PV} {x : α} (h : cutL ρ m m' cs (f x)) : cutB ρ m m' ⟨T, k, List.replicate n cs⟩ ⟨T, k, (List.replicate n x).map f⟩ := ⟨rfl, rfl, .inr (cutE_rep h)⟩
theorem cutB_e {ρ : Nat → Option Nat} {T k : Nat} {es es' : List (List PV)} (h : cutE ρ m m' es es') : cutB ρ m m' ⟨T, k, es⟩ ⟨T, k, es'⟩ := ⟨rfl, rfl, .inr h⟩
theorem cutE_n {ρ : Nat → Option Nat} : cutE ρ m m' [] [] := trivial
theorem cutE_c {ρ : Nat → Option Nat} {cs ds : List PV} {es es' : List (List PV)} (h : cutL ρ m m' cs ds) (h' : cutE ρ m m' es es') : cutE ρ m m' (cs :: es) (ds :: es') := ⟨h, h'⟩
theorem cutB_nil {ρ : Nat → Option Nat} {T k : Nat} : cutB ρ m m' ⟨T, k, []⟩ ⟨T, k, []⟩ := cutB_e trivial
theorem cutB_two {ρ : Nat → Option Nat} {T k : Nat} {a b c d : List PV} {es es' : List (List PV)} (h : cutE ρ m m' (a :: b :: es) (c :: d :: es')) : cutB ρ m m' ⟨T, k, a :: b :: es⟩ ⟨T, k, c :: d :: es'⟩ := cutB_e h
theorem cutB_snoc {α : Type} {f : α → List PV} [PlainC f] {ρ : Nat → Option Nat} {T k : Nat} {cs : List PV} {x : α} {xs : List α} (h : cutL ρ m m' cs (f x)) : cutB ρ m m' ⟨T, k, xs.map f ++ [cs]⟩ ⟨T, k, (xs ++ [x]).map f⟩ := ⟨rfl, rfl, .inr (cutE_snoc h)⟩
theorem idxM {T : TypeId} {l : Nat} {i : PV} (h : pIndexAddr P m T (.ms l) i KR) : pIndexAddr P m T (.ms l) i KR := h
theorem idx_msb {α : Type} [EncOf α] {xs : List α} {x : α} {T T' : TypeId} {l k' : Nat} {i : Int} {k : IntKind} (h : getI xs i = some x) (hm : look m l = some ⟨T', k', xs.map EncOf.c⟩) (hp : 0 < elemK P T) (hk : k' = elemK P T) (hK : KR (.be l i.toNat 0)) : pIndexAddr P m T (.ms l) (.v (.int k i)) KR := idx_ms h hm hp hk hK
theorem idxmap {α : Type} {f : α → List PV} {xs : List α} {x : α} {i : Int} (h : getI xs i = some x) : (xs.map f)[i.toNat]? = some (f x) := by
  rw [List.getElem?_map, (getI_some h).2]; rfl
theorem slice_msb {α : Type} [EncOf α] {xs : List α} {T T' : TypeId} {r k : Nat} {lo hi : Option PV} {l h : Int} (hok : slOk l h xs.length = true) (hm : look m r = some ⟨T', k, xs.map EncOf.c⟩) (hlo : pBd lo 0 = some l) (hhi : pBd hi xs.length = some h) (hp : 0 < elemK P T) (hk : k = elemK P T) (hK : KR (.ss r l.toNat h.toNat)) : pSlice P m T (.ms r) lo hi KR := by
  obtain ⟨e, hu, he⟩ := elemK_of hp
  rw [he] at hp hk
  have hok' := of_decide_eq_true hok
  simp only [pSlice, hu, look_live, hm, List.length_map, hlo, hhi]
  exact ⟨hok'.1, hok'.2.1, hok'.2.2, hp, hk, hK⟩
theorem src_ss {α : Type} [EncOf α] {xs : List α} {T' : TypeId} {r k : Nat} {a b : Int} (hm : look m r = some ⟨T', k, xs.map EncOf.c⟩) : srcOf m (.ss r a.toNat b.toNat) = some ((subL xs a b).map EncOf.c) := by
  have h := look_iff.1 hm
  simp only [srcOf, h, drop_mp, take_mp, subL]
theorem src_ss' {α : Type} [EncOf α] {xs : List α} {T' : TypeId} {r k A B : Nat} {a b : Int} (hm : look m r = some ⟨T', k, xs.map EncOf.c⟩) (hA : A = a.toNat) (hB : B = b.toNat) : srcOf m (.ss r A B) = some ((subL xs a b).map EncOf.c) := by subst hA hB; exact src_ss hm
theorem gV_ag {cs : List PV} (h : cs.all isC = true) : goodV false (.ag cs) := fun c hc => goodC_of (List.all_eq_true.1 h c hc)
theorem gV_agF {cs : List PV} (h : cs.all isF = true) : goodV true (.ag cs) := fun c hc => goodF_of (List.all_eq_true.1 h c hc)
theorem gV_tu {ps : List PV} (h : ps.all isCA = true) : goodV false (.tu ps) := fun c hc => (isCA_ren (σ := id) (List.all_eq_true.1 h c hc)).2.1
theorem idxB {T : TypeId} {s : ByteArray} {i : PV} (h : pIndex P T (.v (.string s)) i KR) : pIndex P T (.v (.string s)) i KR := h
theorem slcS {T : TypeId} {x : PV} {lo hi : Option PV} (h : pSlice P m T x lo hi KR) : pSlice P m T x lo hi KR := h
theorem appS {T : TypeId} {ν : Nat} {x y : PV} (h : pAppend P ν m T x y KA) : pAppend P ν m T x y KA := h
theorem callS {f : FuncId} {ps : List PV} {io : Bool} {wd ν : Nat} (h : pCall P io wd ν f ps m KA) : pCall P io wd ν f ps m KA := h
theorem optS {o : Option Value} (h : optK o KR) : optK o KR := h
theorem loopS {c : Code} (h : pwp P n0 (.loop c) Q t m) : pwp P n0 (.loop c) Q t m := h
theorem cutS (h : Cuts n0 t m t' m') : Cuts n0 t m t' m' := h
theorem all_nil {α : Type} {p : α → Prop} : (∀ x ∈ ([] : List α), p x) = True := by simp
theorem all_cons {α : Type} {p : α → Prop} {a : α} {as_ : List α} : (∀ x ∈ a :: as_, p x) = (p a ∧ ∀ x ∈ as_, p x) := by simp
theorem rdp_rp {cs : List PV} : rdp m (.rp cs) = some cs := nrfl rfl
theorem app_msb {α : Type} [EncOf α] {xs ys : List α} {T : TypeId} {ν l e k n b : Nat} {x : PV} {zc : List PV} (hok : appOk (xs.length + ys.length) b = true) (hu : P.underlying T = some (.slice e)) (hz : pz P e = some zc) (hb : P.bytesOf e = b) (hc : P.cellsOf e = n) (hl : look m l = some ⟨e, k, xs.map EncOf.c⟩) (hsrc : srcOf m x = some (ys.map EncOf.c))
    (hzl : zc.length = n) (hp : decide (0 < n) = true) (hf : ∀ x : α, (EncOf.c x).length = n) (hk : k = n) (hK : KA (.ms ν) (mput (m.set l none) ν ⟨e, k, (xs ++ ys).map EncOf.c⟩)) : pAppend P ν m T (.ms l) x KA := by
  subst hb hc
  exact app_ms hok hu hz hsrc hl hzl (of_decide_eq_true hp) hf hk hK
theorem app_nlb {α : Type} [EncOf α] {ys : List α} {T : TypeId} {ν e n b : Nat} {x : PV} {zc : List PV} (hok : appOk ys.length b = true) (hu : P.underlying T = some (.slice e)) (hz : pz P e = some zc) (hb : P.bytesOf e = b) (hc : P.cellsOf e = n) (hsrc : srcOf m x = some (ys.map EncOf.c))
    (hzl : zc.length = n) (hp : decide (0 < n) = true) (hf : ∀ x : α, (EncOf.c x).length = n) (hK : KA (.ms ν) (mput m ν ⟨e, n, ys.map EncOf.c⟩)) : pAppend P ν m T (.v (.slice none 0 0)) x KA := by
  subst hb hc
  exact app_nl hok hu hz hsrc hzl (of_decide_eq_true hp) hf hK
theorem hm_nil {b : Bool} : ∀ mb, some mb ∈ ([] : Mem) → ∀ cs ∈ mb.es, ∀ p ∈ cs, goodC b p := by intro mb h; cases h
theorem hm_one {α : Type} {f : α → List PV} [PlainC f] {T k : Nat} {xs : List α} : ∀ mb, some mb ∈ ([some ⟨T, k, xs.map f⟩] : Mem) → ∀ cs ∈ mb.es, ∀ p ∈ cs, goodC false p := by
  intro mb h
  simp only [List.mem_singleton, Option.some.injEq] at h
  subst h
  exact of_eq_true goodD_map
theorem hm_oneT {α : Type} {f : α → List PV} [FlatC f] {T k : Nat} {xs : List α} : ∀ mb, some mb ∈ ([some ⟨T, k, xs.map f⟩] : Mem) → ∀ cs ∈ mb.es, ∀ p ∈ cs, goodC true p := by
  intro mb h
  simp only [List.mem_singleton, Option.some.injEq] at h
  subst h
  exact of_eq_true goodT_map
theorem hm_c {x : Option MB} {m : Mem} {b : Bool} (h1 : ∀ mb, some mb ∈ ([x] : Mem) → ∀ cs ∈ mb.es, ∀ p ∈ cs, goodC b p) (h2 : ∀ mb, some mb ∈ m → ∀ cs ∈ mb.es, ∀ p ∈ cs, goodC b p) : ∀ mb, some mb ∈ (x :: m) → ∀ cs ∈ mb.es, ∀ p ∈ cs, goodC b p := by
  intro mb h
  rcases List.mem_cons.1 h with h | h
  · exact h1 mb (by simp [h])
  · exact h2 mb h
end
attribute [go_sem] rdp_rp set_z set_s getD_z getD_s ops_z ops_s ops_a nxt_app atM_app rgo_app pgo_app gate2_tt gate2_ff pops_nil pops_go pops_gd nxd_app popsD_nil popsD_go popsD_gd rgd_app rge_app nxe_app ioAt_nil ioAt_cons popI_call pgd_app gd_some gd_none gdV_tt gdV_ff gdV_ud putP_some putP_none evP_tmp evP_int evP_bool evP_str evP_sl evP_ptr evP_func popA_move popA_assign pPick_t pPick_f popA_pick popA_load popA_nilCheck popA_binOp popA_unOp popA_convert popA_slice popA_fieldAddr popA_field popA_indexAddr popA_index popA_extract popA_build popA_makeFunc popA_len popA_min popA_max popA_alloc popA_box popA_buildSlice popA_makeSlice popA_store popA_append popA_call popA_dyn optK_some rdp_be look_z look_s mput_z mput_s mput_n0 mput_ns mset_z mset_s setR_z setR_e setR_s rapp_z rapp_s sig_n sig_z sig_s renEs_map renEs_nil renEs_cons rowQ_map live_look drop_mp take_mp pBin binV pUn pFieldAddr pField pExt pLen pMinMax pLoad aggd pBox pc pStore pNil thenP_normal blockP_normal thenP_exit thenP_ret blockP_exit blockP_ret Option.bind_some List.length_map if_true if_false Bool.false_eq_true List.map_cons List.map_nil List.toList_toArray beq_self_eq_true ite_self Int.toNat_natCast true_and and_true List.length_nil List.nil_append List.append_nil Nat.zero_add List.drop_zero List.drop_succ_cons List.take_zero List.take_succ_cons List.length_cons List.cons_append Option.map_some List.replicate_zero Bool.not_true Bool.not_false renV renA renC ren1 putNew renMB pPick pConv pConvM pBd Option.map_none pBuild fillP pBuildSlice chunk zflat all_cons all_nil Nat.zero_lt_succ Nat.lt_add_one and_self
end Go.Proofs.YtmcdjilbkmhfoaaGreat
namespace Go.Proofs.YtmcdjilbkmhfoaaGreat
set_option maxRecDepth 10000
open Go.RowKit
set_option linter.unusedVariables false
set_option linter.unusedSimpArgs false
instance : PlainC cInt := ⟨fun x q h => by simp only [cInt, List.mem_singleton] at h; subst h; rfl⟩
instance : FlatC cInt := ⟨fun x q h => by simp only [cInt, List.mem_singleton] at h; subst h; rfl⟩
instance : PlainC cStr := ⟨fun x q h => by simp only [cStr, List.mem_singleton] at h; subst h; rfl⟩
instance : FlatC cStr := ⟨fun x q h => by simp only [cStr, List.mem_singleton] at h; subst h; rfl⟩
instance : PlainC cBool := ⟨fun x q h => by simp only [cBool, List.mem_singleton] at h; subst h; rfl⟩
instance : FlatC cBool := ⟨fun x q h => by simp only [cBool, List.mem_singleton] at h; subst h; rfl⟩
structure YB8 where
  v : Int
deriving DecidableEq
def cB8 (x : YB8) : List PV := [v8 x.v]
instance : EncOf YB8 := ⟨cB8⟩
instance : PlainC cB8 := ⟨fun x q h => by simp only [cB8, List.mem_singleton] at h; subst h; rfl⟩
instance : FlatC cB8 := ⟨fun x q h => by simp only [cB8, List.mem_singleton] at h; subst h; rfl⟩
structure Yl1Cur where
  b : List YB8
  i : Int
  h : Int
deriving DecidableEq
def cl1Cur (x : Yl1Cur) : List PV := [.sl (x.b.map cB8), vi x.i, vi x.h]
instance : EncOf Yl1Cur := ⟨cl1Cur⟩
instance : PlainC cl1Cur := ⟨fun x q h => by simp only [cl1Cur, List.mem_cons, List.not_mem_nil, or_false] at h; (repeat' (first | (rcases h with rfl | h; rfl) | (subst h; rfl)))⟩
instance : EncOf YLabel := ⟨cLabel⟩
instance : PlainC cLabel := ⟨fun x q h => by simp only [cLabel, List.mem_cons, List.not_mem_nil, or_false] at h; (repeat' (first | (rcases h with rfl | h; rfl) | (subst h; rfl)))⟩
instance : FlatC cLabel := ⟨fun x q h => by simp only [cLabel, List.mem_cons, List.not_mem_nil, or_false] at h; (repeat' (first | (rcases h with rfl | h; rfl) | (subst h; rfl)))⟩
instance : EncOf YParcel := ⟨cParcel⟩
instance : PlainC cParcel := ⟨fun x q h => by simp only [cParcel, List.mem_cons, List.not_mem_nil, or_false] at h; (repeat' (first | (rcases h with rfl | h; rfl) | (subst h; rfl)))⟩
instance : EncOf YZone := ⟨cZone⟩
instance : PlainC cZone := ⟨fun x q h => by simp only [cZone, List.mem_cons, List.not_mem_nil, or_false] at h; (repeat' (first | (rcases h with rfl | h; rfl) | (subst h; rfl)))⟩
instance : FlatC cZone := ⟨fun x q h => by simp only [cZone, List.mem_cons, List.not_mem_nil, or_false] at h; (repeat' (first | (rcases h with rfl | h; rfl) | (subst h; rfl)))⟩
instance : EncOf YRate := ⟨cRate⟩
instance : PlainC cRate := ⟨fun x q h => by simp only [cRate, List.mem_cons, List.not_mem_nil, or_false] at h; (repeat' (first | (rcases h with rfl | h; rfl) | (subst h; rfl)))⟩
instance : FlatC cRate := ⟨fun x q h => by simp only [cRate, List.mem_cons, List.not_mem_nil, or_false] at h; (repeat' (first | (rcases h with rfl | h; rfl) | (subst h; rfl)))⟩
instance : EncOf YLeg := ⟨cLeg⟩
instance : PlainC cLeg := ⟨fun x q h => by simp only [cLeg, List.mem_cons, List.not_mem_nil, or_false] at h; (repeat' (first | (rcases h with rfl | h; rfl) | (subst h; rfl)))⟩
instance : FlatC cLeg := ⟨fun x q h => by simp only [cLeg, List.mem_cons, List.not_mem_nil, or_false] at h; (repeat' (first | (rcases h with rfl | h; rfl) | (subst h; rfl)))⟩
instance : EncOf YNetwork := ⟨cNetwork⟩
instance : PlainC cNetwork := ⟨fun x q h => by simp only [cNetwork, List.mem_cons, List.not_mem_nil, or_false] at h; (repeat' (first | (rcases h with rfl | h; rfl) | (subst h; rfl)))⟩
instance : EncOf YTrip := ⟨cTrip⟩
instance : PlainC cTrip := ⟨fun x q h => by simp only [cTrip, List.mem_cons, List.not_mem_nil, or_false] at h; (repeat' (first | (rcases h with rfl | h; rfl) | (subst h; rfl)))⟩
instance : FlatC cTrip := ⟨fun x q h => by simp only [cTrip, List.mem_cons, List.not_mem_nil, or_false] at h; (repeat' (first | (rcases h with rfl | h; rfl) | (subst h; rfl)))⟩
instance : EncOf YBooking := ⟨cBooking⟩
instance : PlainC cBooking := ⟨fun x q h => by simp only [cBooking, List.mem_cons, List.not_mem_nil, or_false] at h; (repeat' (first | (rcases h with rfl | h; rfl) | (subst h; rfl)))⟩
instance : FlatC cBooking := ⟨fun x q h => by simp only [cBooking, List.mem_cons, List.not_mem_nil, or_false] at h; (repeat' (first | (rcases h with rfl | h; rfl) | (subst h; rfl)))⟩
instance : EncOf YScan := ⟨cScan⟩
instance : PlainC cScan := ⟨fun x q h => by simp only [cScan, List.mem_cons, List.not_mem_nil, or_false] at h; (repeat' (first | (rcases h with rfl | h; rfl) | (subst h; rfl)))⟩
instance : FlatC cScan := ⟨fun x q h => by simp only [cScan, List.mem_cons, List.not_mem_nil, or_false] at h; (repeat' (first | (rcases h with rfl | h; rfl) | (subst h; rfl)))⟩
instance : EncOf YOrder := ⟨cOrder⟩
instance : PlainC cOrder := ⟨fun x q h => by simp only [cOrder, List.mem_cons, List.not_mem_nil, or_false] at h; (repeat' (first | (rcases h with rfl | h; rfl) | (subst h; rfl)))⟩
instance : EncOf YWorld := ⟨cWorld⟩
instance : PlainC cWorld := ⟨fun x q h => by simp only [cWorld, List.mem_cons, List.not_mem_nil, or_false] at h; (repeat' (first | (rcases h with rfl | h; rfl) | (subst h; rfl)))⟩
instance : EncOf YLine := ⟨cLine⟩
instance : PlainC cLine := ⟨fun x q h => by simp only [cLine, List.mem_cons, List.not_mem_nil, or_false] at h; (repeat' (first | (rcases h with rfl | h; rfl) | (subst h; rfl)))⟩
instance : FlatC cLine := ⟨fun x q h => by simp only [cLine, List.mem_cons, List.not_mem_nil, or_false] at h; (repeat' (first | (rcases h with rfl | h; rfl) | (subst h; rfl)))⟩
instance : EncOf YAct := ⟨cAct⟩
instance : PlainC cAct := ⟨fun x q h => by simp only [cAct, List.mem_cons, List.not_mem_nil, or_false] at h; (repeat' (first | (rcases h with rfl | h; rfl) | (subst h; rfl)))⟩
instance : EncOf YOffice := ⟨cOffice⟩
instance : PlainC cOffice := ⟨fun x q h => by simp only [cOffice, List.mem_cons, List.not_mem_nil, or_false] at h; (repeat' (first | (rcases h with rfl | h; rfl) | (subst h; rfl)))⟩
instance : EncOf YItem := ⟨cItem⟩
instance : PlainC cItem := ⟨fun x q h => by simp only [cItem, List.mem_cons, List.not_mem_nil, or_false] at h; (repeat' (first | (rcases h with rfl | h; rfl) | (subst h; rfl)))⟩
instance : FlatC cItem := ⟨fun x q h => by simp only [cItem, List.mem_cons, List.not_mem_nil, or_false] at h; (repeat' (first | (rcases h with rfl | h; rfl) | (subst h; rfl)))⟩
instance : EncOf YChute := ⟨cChute⟩
instance : PlainC cChute := ⟨fun x q h => by simp only [cChute, List.mem_cons, List.not_mem_nil, or_false] at h; (repeat' (first | (rcases h with rfl | h; rfl) | (subst h; rfl)))⟩
instance : EncOf YInlet := ⟨cInlet⟩
instance : PlainC cInlet := ⟨fun x q h => by simp only [cInlet, List.mem_cons, List.not_mem_nil, or_false] at h; (repeat' (first | (rcases h with rfl | h; rfl) | (subst h; rfl)))⟩
instance : EncOf YCentre := ⟨cCentre⟩
instance : PlainC cCentre := ⟨fun x q h => by simp only [cCentre, List.mem_cons, List.not_mem_nil, or_false] at h; (repeat' (first | (rcases h with rfl | h; rfl) | (subst h; rfl)))⟩
instance : EncOf YThing := ⟨cThing⟩
instance : PlainC cThing := ⟨fun x q h => by simp only [cThing, List.mem_cons, List.not_mem_nil, or_false] at h; (repeat' (first | (rcases h with rfl | h; rfl) | (subst h; rfl)))⟩
instance : FlatC cThing := ⟨fun x q h => by simp only [cThing, List.mem_cons, List.not_mem_nil, or_false] at h; (repeat' (first | (rcases h with rfl | h; rfl) | (subst h; rfl)))⟩
instance : EncOf YBelief := ⟨cBelief⟩
instance : PlainC cBelief := ⟨fun x q h => by simp only [cBelief, List.mem_cons, List.not_mem_nil, or_false] at h; (repeat' (first | (rcases h with rfl | h; rfl) | (subst h; rfl)))⟩
attribute [go_sem] cInt cStr cBool cB8 cl1Cur cLabel cParcel cZone cRate cLeg cNetwork cTrip cBooking cScan cOrder cWorld cLine cAct cOffice cItem cChute cInlet cCentre cThing cBelief EncOf.c
theorem wk {p : Prop} (h : p := by
  (simp only [List.length_cons, List.length_nil, Nat.reduceAdd, Nat.reduceSub, List.replicate_succ, List.replicate_zero, List.cons_append, List.nil_append, go_sem]);
  repeat' (first
    | ((with_reducible refine pwp_seq ?_); intro K_ hK)
    | ((with_reducible refine pwp_block ?_))
    | ((with_reducible refine pwp_region ?_); simp only [go_sem, Nat.reduceAdd, Nat.reduceSub, Nat.reduceMul, Nat.reduceLT, Nat.reduceLeDiff, Nat.reduceEqDiff, if_true, eq_self])
    | ((with_reducible refine pwp_skip ?_); (try simp only [thenP_normal, blockP_normal]))
    | ((with_reducible refine pwp_exit ?_); (simp only [thenP_exit, blockP_exit, thenP_normal, blockP_normal, if_true, if_false, eq_self, Nat.reduceEqDiff, Nat.one_ne_zero, Nat.zero_ne_one]); (try simp only [bexR, bsr, bsl] at H))
    | ((with_reducible refine pwp_ret ?_); (try simp only [thenP_ret, blockP_ret]))
    | ((with_reducible refine hQ _ _ ?_); (try simp only [bexR, bsr, bsl] at H); replace H := Hret H; subst H; simp only [Fin, resP, oneP, go_sem, Nat.reduceAdd, Nat.reduceSub, Nat.reduceMul, Nat.reduceLT, Nat.reduceLeDiff, Nat.reduceEqDiff, if_true, eq_self]; (with_reducible refine cutS ?_); (first | (with_reducible apply cut_0) | (with_reducible apply cut_1) | (with_reducible apply cut_2) | (with_reducible apply cut_3) | (with_reducible apply cut_4) | (with_reducible apply cut_5) | (with_reducible apply cut_6) | (with_reducible apply cut_7) | (with_reducible apply cut_8)); (repeat' (first       | (with_reducible refine cutT_un ?_)       | (with_reducible refine cutT_c ?_ ?_)       | (with_reducible exact cutT_nil)       | (with_reducible exact cutV_c rfl)       | exact cutV_c rfl       | (with_reducible exact cutL_nil)       | (with_reducible refine cutL_c ?_ ?_)       | exact .c _ rfl       | exact .un _       | exact cutC_ms rfl rfl       | exact cutC_be rfl rfl       | exact cutC_nilsl       | exact cutC_nilms rfl rfl       | (refine cutC_fms rfl ?_)       | (refine cutC_fbe rfl rfl ?_)       | (with_reducible refine cutV_ag ?_)       | (with_reducible refine cutV_tu ?_)       | (with_reducible exact cutAs_nil)       | (with_reducible refine cutAs_c ?_ ?_)       | (with_reducible refine cutA_ag ?_)       | (with_reducible refine cutA_k ?_)       | (with_reducible refine cutV_k ?_)       | (with_reducible exact rowsOk_nil)       | (refine rowsOk_live rfl ?_ ?_)       | (refine rowsOk_new rfl ?_)       | (with_reducible refine rowsOk_dead ?_)       | (with_reducible refine cutB_one ?_)       | (with_reducible exact cutB_nil)       | (with_reducible refine cutB_two ?_)       | (with_reducible exact cutE_n)       | (with_reducible refine cutE_c ?_ ?_)       | (with_reducible exact cutB_same)       | (with_reducible refine cutB_set ?_)       | exact cutB_same       | (refine cutB_set ?_)       | (refine cutB_rep ?_)       | (refine cutB_snoc ?_)       | (simp only [cInt, cStr, cBool, cB8, cl1Cur, cLabel, cParcel, cZone, cRate, cLeg, cNetwork, cTrip, cBooking, cScan, cOrder, cWorld, cLine, cAct, cOffice, cItem, cChute, cInlet, cCentre, cThing, cBelief])       | (with_unfolding_all rfl))); (all_goals first | (exact dropped_of rfl) | exact none))
    | ((with_reducible refine hQn _ _ ?_); (try simp only [bexR, bsr, bsl] at H); replace H := Hret H; subst H; simp only [Fin, resP, oneP, go_sem, Nat.reduceAdd, Nat.reduceSub, Nat.reduceMul, Nat.reduceLT, Nat.reduceLeDiff, Nat.reduceEqDiff, if_true, eq_self]; (with_reducible refine cutS ?_); (first | (with_reducible apply cut_0) | (with_reducible apply cut_1) | (with_reducible apply cut_2) | (with_reducible apply cut_3) | (with_reducible apply cut_4) | (with_reducible apply cut_5) | (with_reducible apply cut_6) | (with_reducible apply cut_7) | (with_reducible apply cut_8)); (repeat' (first       | (with_reducible refine cutT_un ?_)       | (with_reducible refine cutT_c ?_ ?_)       | (with_reducible exact cutT_nil)       | (with_reducible exact cutV_c rfl)       | exact cutV_c rfl       | (with_reducible exact cutL_nil)       | (with_reducible refine cutL_c ?_ ?_)       | exact .c _ rfl       | exact .un _       | exact cutC_ms rfl rfl       | exact cutC_be rfl rfl       | exact cutC_nilsl       | exact cutC_nilms rfl rfl       | (refine cutC_fms rfl ?_)       | (refine cutC_fbe rfl rfl ?_)       | (with_reducible refine cutV_ag ?_)       | (with_reducible refine cutV_tu ?_)       | (with_reducible exact cutAs_nil)       | (with_reducible refine cutAs_c ?_ ?_)       | (with_reducible refine cutA_ag ?_)       | (with_reducible refine cutA_k ?_)       | (with_reducible refine cutV_k ?_)       | (with_reducible exact rowsOk_nil)       | (refine rowsOk_live rfl ?_ ?_)       | (refine rowsOk_new rfl ?_)       | (with_reducible refine rowsOk_dead ?_)       | (with_reducible refine cutB_one ?_)       | (with_reducible exact cutB_nil)       | (with_reducible refine cutB_two ?_)       | (with_reducible exact cutE_n)       | (with_reducible refine cutE_c ?_ ?_)       | (with_reducible exact cutB_same)       | (with_reducible refine cutB_set ?_)       | exact cutB_same       | (refine cutB_set ?_)       | (refine cutB_rep ?_)       | (refine cutB_snoc ?_)       | (simp only [cInt, cStr, cBool, cB8, cl1Cur, cLabel, cParcel, cZone, cRate, cLeg, cNetwork, cTrip, cBooking, cScan, cOrder, cWorld, cLine, cAct, cOffice, cItem, cChute, cInlet, cCentre, cThing, cBelief])       | (with_unfolding_all rfl))); (all_goals first | (exact dropped_of rfl) | exact none))
    | ((with_reducible refine gateS ?_); (refine gate2_intro (fun hg => Hc1k H hg ?_) (fun hg => Hc2k H hg ?_)) <;> (clear H; intro H; simp only [go_sem, Nat.reduceAdd, Nat.reduceSub, Nat.reduceMul, Nat.reduceLT, Nat.reduceLeDiff, Nat.reduceEqDiff, if_true, eq_self]))
    | ((with_reducible refine pwp_condE ?_); simp only [evP_tmp, getD_z, getD_s, evP_bool]; (first | (with_reducible refine condP_tt ?_) | (with_reducible refine condP_ff ?_) | ((refine condP_intro (fun hg => Hc1k H hg ?_) (fun hg => Hc2k H hg ?_)) <;> (clear H; intro H))))
    | ((with_reducible refine idxS ?_); replace H := Hcall H; obtain ⟨y_, hy, H⟩ := H; (with_reducible apply idx_sl hy); (focus (first | (simp only [go_sem]; done) | (simp only [go_sem]; decide))); (focus (first | rfl | (simp only [go_sem]; rfl))); simp only [go_sem, Nat.reduceAdd, Nat.reduceSub, Nat.reduceMul, Nat.reduceLT, Nat.reduceLeDiff, Nat.reduceEqDiff, if_true, eq_self])
    | ((with_reducible refine idxM ?_); replace H := Hcall H; obtain ⟨y_, hy, H⟩ := H; (refine idx_msb hy (by rfl) (by first | (simp only [go_sem]; done) | (simp only [go_sem]; decide)) (by first | rfl | (simp only [go_sem]; rfl)) ?_); simp only [go_sem, Nat.reduceAdd, Nat.reduceSub, Nat.reduceMul, Nat.reduceLT, Nat.reduceLeDiff, Nat.reduceEqDiff, if_true, eq_self])
    | ((with_reducible refine idxB ?_); replace H := Hcall H; obtain ⟨y_, hy, H⟩ := H; (with_reducible apply idx_str hy); (focus (simp only [go_sem])); simp only [go_sem, Nat.reduceAdd, Nat.reduceSub, Nat.reduceMul, Nat.reduceLT, Nat.reduceLeDiff, Nat.reduceEqDiff, if_true, eq_self])
    | ((with_reducible refine callS ?_); replace H := Hcall H; obtain ⟨y_, hy, H⟩ := H; (first | ((with_reducible apply call_deep); (focus (exact CT.ok hy)); (focus (simp [isCA, isC, isC1])); (focus (exact Nat.le_of_ble_eq_true rfl)); (focus (first | exact hm_nil | exact hm_one | exact hm_oneT | exact hm_c hm_one (hm_c hm_one hm_one) | exact hm_c hm_one hm_one)); (focus (first | exact gV_ag rfl | exact gV_tu rfl | exact (fun h => (by cases h)) | (simp [CT.res, goodV, goodA, goodC]))); (simp only [CT.res, CT.mem, go_sem, Nat.reduceAdd, Nat.reduceSub, Nat.reduceMul, Nat.reduceLT, Nat.reduceLeDiff, Nat.reduceEqDiff, if_true, eq_self])) | ((with_reducible apply call_flat); (focus (simp only [snapA, snapV, snapC, snapL, live_look, look_z, look_s, rowQ_map, List.forall_mem_nil, true_and, and_true]; (first | exact CT.ok hy | (simp only [all_nil, all_cons, isC, isC1, true_and, and_true]; exact CT.ok hy)))); (focus (exact Nat.le_of_ble_eq_true rfl)); (focus (first | exact hm_nil | exact hm_one | exact hm_oneT | exact hm_c hm_one (hm_c hm_one hm_one) | exact hm_c hm_one hm_one)); (focus (first | exact gV_agF rfl | exact (fun _ => rfl) | (simp [CT.res, goodV, goodA, goodC, isF]))); (simp only [CT.res, CT.mem, go_sem, Nat.reduceAdd, Nat.reduceSub, Nat.reduceMul, Nat.reduceLT, Nat.reduceLeDiff, Nat.reduceEqDiff, if_true, eq_self]))))
    | ((with_reducible refine slcS ?_); replace H := Hchk H; obtain ⟨hc, H⟩ := H; (first | ((with_reducible apply slice_sl hc); (focus rfl); (focus rfl); (focus (first | (simp only [go_sem]; done) | (simp only [go_sem]; decide))); (focus (first | rfl | (intro x_; rfl))); simp only [go_sem, Nat.reduceAdd, Nat.reduceSub, Nat.reduceMul, Nat.reduceLT, Nat.reduceLeDiff, Nat.reduceEqDiff, if_true, eq_self]) | ((refine slice_msb hc (by rfl) (by rfl) (by rfl) (by first | (simp only [go_sem]; done) | (simp only [go_sem]; decide)) (by first | rfl | (simp only [go_sem]; rfl)) ?_); simp only [go_sem, Nat.reduceAdd, Nat.reduceSub, Nat.reduceMul, Nat.reduceLT, Nat.reduceLeDiff, Nat.reduceEqDiff, if_true, eq_self]) | ((with_reducible apply slice_str hc); (focus rfl); (focus rfl); (focus (simp only [go_sem])); simp only [go_sem, Nat.reduceAdd, Nat.reduceSub, Nat.reduceMul, Nat.reduceLT, Nat.reduceLeDiff, Nat.reduceEqDiff, if_true, eq_self])))
    | ((with_reducible refine appS ?_); replace H := Hchk H; obtain ⟨hc, H⟩ := H; (first | (refine app_msb hc (by first | (simp only [go_sem]; done) | (simp only [go_sem]; rfl)) (by first | (simp only [go_sem]; done) | (simp only [go_sem]; rfl)) (by first | (simp only [go_sem]; done) | (simp only [go_sem]; rfl)) (by first | (simp only [go_sem]; done) | (simp only [go_sem]; rfl)) (by rfl) (by first | rfl | exact src_ss' (by rfl) (by rfl) (by rfl)) rfl rfl (by intro x_; rfl) rfl ?_) | (refine app_nlb hc (by first | (simp only [go_sem]; done) | (simp only [go_sem]; rfl)) (by first | (simp only [go_sem]; done) | (simp only [go_sem]; rfl)) (by first | (simp only [go_sem]; done) | (simp only [go_sem]; rfl)) (by first | (simp only [go_sem]; done) | (simp only [go_sem]; rfl)) (by first | rfl | exact src_ss' (by rfl) (by rfl) (by rfl)) rfl rfl (by intro x_; rfl) ?_)); simp only [go_sem, Nat.reduceAdd, Nat.reduceSub, Nat.reduceMul, Nat.reduceLT, Nat.reduceLeDiff, Nat.reduceEqDiff, if_true, eq_self])
    | ((with_reducible refine mkS ?_); replace H := Hchk H; obtain ⟨hc, H⟩ := H; (refine make_b hc (by first | (simp only [go_sem]; done) | (simp only [go_sem]; rfl)) (by first | (simp only [go_sem]; done) | (simp only [go_sem]; rfl)) (by first | (simp only [go_sem]; done) | (simp only [go_sem]; rfl)) (by first | (simp only [go_sem]; done) | (simp only [go_sem]; rfl)) rfl rfl ?_); simp only [go_sem, Nat.reduceAdd, Nat.reduceSub, Nat.reduceMul, Nat.reduceLT, Nat.reduceLeDiff, Nat.reduceEqDiff, if_true, eq_self])
    | ((with_reducible refine optS ?_); (first | (with_reducible refine opt_if (by decide) ?_) | (replace H := Hchk H; obtain ⟨hc, H⟩ := H; (first | (refine opt_if hc ?_) | (refine opt_if (of_decide_eq_true hc) ?_) | (refine opt_if ⟨rfl, of_decide_eq_true hc⟩ ?_)))); simp only [go_sem, Nat.reduceAdd, Nat.reduceSub, Nat.reduceMul, Nat.reduceLT, Nat.reduceLeDiff, Nat.reduceEqDiff, if_true, eq_self])
    | ((with_reducible refine loopS ?_); (refine pwp_loopH (Hlp H) ?_ ?_); (focus (simp only [LoopE.T, LoopE.M]; (with_reducible refine cutS ?_); (first | (with_reducible apply cut_0) | (with_reducible apply cut_1) | (with_reducible apply cut_2) | (with_reducible apply cut_3) | (with_reducible apply cut_4) | (with_reducible apply cut_5) | (with_reducible apply cut_6) | (with_reducible apply cut_7) | (with_reducible apply cut_8)); (repeat' (first       | (with_reducible refine cutT_un ?_)       | (with_reducible refine cutT_c ?_ ?_)       | (with_reducible exact cutT_nil)       | (with_reducible exact cutV_c rfl)       | exact cutV_c rfl       | (with_reducible exact cutL_nil)       | (with_reducible refine cutL_c ?_ ?_)       | exact .c _ rfl       | exact .un _       | exact cutC_ms rfl rfl       | exact cutC_be rfl rfl       | exact cutC_nilsl       | exact cutC_nilms rfl rfl       | (refine cutC_fms rfl ?_)       | (refine cutC_fbe rfl rfl ?_)       | (with_reducible refine cutV_ag ?_)       | (with_reducible refine cutV_tu ?_)       | (with_reducible exact cutAs_nil)       | (with_reducible refine cutAs_c ?_ ?_)       | (with_reducible refine cutA_ag ?_)       | (with_reducible refine cutA_k ?_)       | (with_reducible refine cutV_k ?_)       | (with_reducible exact rowsOk_nil)       | (refine rowsOk_live rfl ?_ ?_)       | (refine rowsOk_new rfl ?_)       | (with_reducible refine rowsOk_dead ?_)       | (with_reducible refine cutB_one ?_)       | (with_reducible exact cutB_nil)       | (with_reducible refine cutB_two ?_)       | (with_reducible exact cutE_n)       | (with_reducible refine cutE_c ?_ ?_)       | (with_reducible exact cutB_same)       | (with_reducible refine cutB_set ?_)       | exact cutB_same       | (refine cutB_set ?_)       | (refine cutB_rep ?_)       | (refine cutB_snoc ?_)       | (simp only [cInt, cStr, cBool, cB8, cl1Cur, cLabel, cParcel, cZone, cRate, cLeg, cNetwork, cTrip, cBooking, cScan, cOrder, cWorld, cLine, cAct, cOffice, cItem, cChute, cInlet, cCentre, cThing, cBelief])       | (with_unfolding_all rfl))); (all_goals first | (exact dropped_of rfl) | exact none))); (clear H; intro n_ s_ H K_ hL; replace H := Hrd H; simp only [LoopE.T, LoopE.M]))
    | ((with_reducible refine pwp_draw (by kernel_rfl) ?_); simp only [go_sem, Nat.reduceAdd, Nat.reduceSub, Nat.reduceMul, Nat.reduceLT, Nat.reduceLeDiff, Nat.reduceEqDiff, if_true, eq_self])
    | ((with_reducible refine endD_intro (by kernel_rfl) ?_); (try simp only [thenP_normal, blockP_normal]))
    | ((with_reducible refine hK _ _ ?_); clear hK)
    | (clear hK; (with_reducible refine hK _ _ ?_); clear hK)
    | (clear hK; clear hK; (with_reducible refine hK _ _ ?_); clear hK)
    | (clear hK; clear hK; clear hK; (with_reducible refine hK _ _ ?_); clear hK)
    | (clear hK; clear hK; clear hK; clear hK; (with_reducible refine hK _ _ ?_); clear hK)
    | (clear hK; clear hK; clear hK; clear hK; clear hK; (with_reducible refine hK _ _ ?_); clear hK)
    | ((with_reducible refine And.intro ?_ ?_); omega)
    | (simp only [nxt_app, nxd_app, nxe_app, atM_app]; simp only [go_sem, Nat.reduceAdd, Nat.reduceSub, Nat.reduceMul, Nat.reduceLT, Nat.reduceLeDiff, Nat.reduceEqDiff, if_true, eq_self])
    | (simp only [idxmap hy, go_sem, Nat.reduceAdd, Nat.reduceSub, Nat.reduceMul, Nat.reduceLT, Nat.reduceLeDiff, Nat.reduceEqDiff, if_true, eq_self])
    | ((with_reducible replace H := HexL H); (with_reducible refine hL _ _ _ H ?_); (try simp only [LoopE.T, LoopE.M]); (with_reducible refine cutS ?_); (first | (with_reducible apply cut_0) | (with_reducible apply cut_1) | (with_reducible apply cut_2) | (with_reducible apply cut_3) | (with_reducible apply cut_4) | (with_reducible apply cut_5) | (with_reducible apply cut_6) | (with_reducible apply cut_7) | (with_reducible apply cut_8)); (repeat' (first       | (with_reducible refine cutT_un ?_)       | (with_reducible refine cutT_c ?_ ?_)       | (with_reducible exact cutT_nil)       | (with_reducible exact cutV_c rfl)       | exact cutV_c rfl       | (with_reducible exact cutL_nil)       | (with_reducible refine cutL_c ?_ ?_)       | exact .c _ rfl       | exact .un _       | exact cutC_ms rfl rfl       | exact cutC_be rfl rfl       | exact cutC_nilsl       | exact cutC_nilms rfl rfl       | (refine cutC_fms rfl ?_)       | (refine cutC_fbe rfl rfl ?_)       | (with_reducible refine cutV_ag ?_)       | (with_reducible refine cutV_tu ?_)       | (with_reducible exact cutAs_nil)       | (with_reducible refine cutAs_c ?_ ?_)       | (with_reducible refine cutA_ag ?_)       | (with_reducible refine cutA_k ?_)       | (with_reducible refine cutV_k ?_)       | (with_reducible exact rowsOk_nil)       | (refine rowsOk_live rfl ?_ ?_)       | (refine rowsOk_new rfl ?_)       | (with_reducible refine rowsOk_dead ?_)       | (with_reducible refine cutB_one ?_)       | (with_reducible exact cutB_nil)       | (with_reducible refine cutB_two ?_)       | (with_reducible exact cutE_n)       | (with_reducible refine cutE_c ?_ ?_)       | (with_reducible exact cutB_same)       | (with_reducible refine cutB_set ?_)       | exact cutB_same       | (refine cutB_set ?_)       | (refine cutB_rep ?_)       | (refine cutB_snoc ?_)       | (simp only [cInt, cStr, cBool, cB8, cl1Cur, cLabel, cParcel, cZone, cRate, cLeg, cNetwork, cTrip, cBooking, cScan, cOrder, cWorld, cLine, cAct, cOffice, cItem, cChute, cInlet, cCentre, cThing, cBelief])       | (with_unfolding_all rfl))); (all_goals first | (exact dropped_of rfl) | exact none))
    | ((with_reducible replace H := HexL H); clear hL; (with_reducible refine hL _ _ _ H ?_); (try simp only [LoopE.T, LoopE.M]); (with_reducible refine cutS ?_); (first | (with_reducible apply cut_0) | (with_reducible apply cut_1) | (with_reducible apply cut_2) | (with_reducible apply cut_3) | (with_reducible apply cut_4) | (with_reducible apply cut_5) | (with_reducible apply cut_6) | (with_reducible apply cut_7) | (with_reducible apply cut_8)); (repeat' (first       | (with_reducible refine cutT_un ?_)       | (with_reducible refine cutT_c ?_ ?_)       | (with_reducible exact cutT_nil)       | (with_reducible exact cutV_c rfl)       | exact cutV_c rfl       | (with_reducible exact cutL_nil)       | (with_reducible refine cutL_c ?_ ?_)       | exact .c _ rfl       | exact .un _       | exact cutC_ms rfl rfl       | exact cutC_be rfl rfl       | exact cutC_nilsl       | exact cutC_nilms rfl rfl       | (refine cutC_fms rfl ?_)       | (refine cutC_fbe rfl rfl ?_)       | (with_reducible refine cutV_ag ?_)       | (with_reducible refine cutV_tu ?_)       | (with_reducible exact cutAs_nil)       | (with_reducible refine cutAs_c ?_ ?_)       | (with_reducible refine cutA_ag ?_)       | (with_reducible refine cutA_k ?_)       | (with_reducible refine cutV_k ?_)       | (with_reducible exact rowsOk_nil)       | (refine rowsOk_live rfl ?_ ?_)       | (refine rowsOk_new rfl ?_)       | (with_reducible refine rowsOk_dead ?_)       | (with_reducible refine cutB_one ?_)       | (with_reducible exact cutB_nil)       | (with_reducible refine cutB_two ?_)       | (with_reducible exact cutE_n)       | (with_reducible refine cutE_c ?_ ?_)       | (with_reducible exact cutB_same)       | (with_reducible refine cutB_set ?_)       | exact cutB_same       | (refine cutB_set ?_)       | (refine cutB_rep ?_)       | (refine cutB_snoc ?_)       | (simp only [cInt, cStr, cBool, cB8, cl1Cur, cLabel, cParcel, cZone, cRate, cLeg, cNetwork, cTrip, cBooking, cScan, cOrder, cWorld, cLine, cAct, cOffice, cItem, cChute, cInlet, cCentre, cThing, cBelief])       | (with_unfolding_all rfl))); (all_goals first | (exact dropped_of rfl) | exact none)))) : p := h
theorem eqT_Trip {n : Nat} {a b a2 b2 : Int} : eqT Tryz.prog (n + 3) 55 [vi a, vi b] [vi a2, vi b2] = some (decide ((⟨a, b⟩ : YTrip) = (⟨a2, b2⟩ : YTrip))) := by
  simp only [eqT, Tryz.underlying3, Tryz.underlying55, ts55, Program.fieldsOf, go_sem]
  simp [tc55, tc3]
  try rfl
@[go_sem] theorem eqK_Trip {a b a2 b2 : Int} {KR : PV → Prop} : eqK Tryz.prog .eql 55 [vi a, vi b] [vi a2, vi b2] KR = KR (vb (decide ((⟨a, b⟩ : YTrip) = (⟨a2, b2⟩ : YTrip)))) := by unfold eqK; rw [show (10000 : Nat) = 9997 + 3 from rfl, eqT_Trip, Tryz.underlying55]; simp only [te55, true_and]
@[go_sem] theorem neK_Trip {a b a2 b2 : Int} {KR : PV → Prop} : eqK Tryz.prog .neq 55 [vi a, vi b] [vi a2, vi b2] KR = KR (vb (!decide ((⟨a, b⟩ : YTrip) = (⟨a2, b2⟩ : YTrip)))) := by unfold eqK; rw [show (10000 : Nat) = 9997 + 3 from rfl, eqT_Trip, Tryz.underlying55]; simp only [te55, true_and]
theorem eqT_Booking {n : Nat} {a b c d a2 b2 c2 d2 : Int} : eqT Tryz.prog (n + 3) 135 [vi a, vi b, vi c, vi d] [vi a2, vi b2, vi c2, vi d2] = some (decide ((⟨a, ⟨b, c⟩, d⟩ : YBooking) = (⟨a2, ⟨b2, c2⟩, d2⟩ : YBooking))) := by
  simp only [eqT, Tryz.underlying3, Tryz.underlying135, ts135, Tryz.underlying55, ts55, Program.fieldsOf, go_sem]
  simp [tc135, tc55, tc3]
  try rfl
@[go_sem] theorem eqK_Booking {a b c d a2 b2 c2 d2 : Int} {KR : PV → Prop} : eqK Tryz.prog .eql 135 [vi a, vi b, vi c, vi d] [vi a2, vi b2, vi c2, vi d2] KR = KR (vb (decide ((⟨a, ⟨b, c⟩, d⟩ : YBooking) = (⟨a2, ⟨b2, c2⟩, d2⟩ : YBooking)))) := by unfold eqK; rw [show (10000 : Nat) = 9997 + 3 from rfl, eqT_Booking, Tryz.underlying135]; simp only [te135, true_and]
@[go_sem] theorem neK_Booking {a b c d a2 b2 c2 d2 : Int} {KR : PV → Prop} : eqK Tryz.prog .neq 135 [vi a, vi b, vi c, vi d] [vi a2, vi b2, vi c2, vi d2] KR = KR (vb (!decide ((⟨a, ⟨b, c⟩, d⟩ : YBooking) = (⟨a2, ⟨b2, c2⟩, d2⟩ : YBooking)))) := by unfold eqK; rw [show (10000 : Nat) = 9997 + 3 from rfl, eqT_Booking, Tryz.underlying135]; simp only [te135, true_and]
end Go.Proofs.YtmcdjilbkmhfoaaGreat
namespace Go.Proofs.YtmcdjilbkmhfoaaGreat
set_option maxRecDepth 10000
open Go.ChangeShapes Go.WideShapes Go.ChangeAt Go.RowKit Go.Deep
set_option linter.unusedVariables false
theorem decP_b8 : DecP Tryz.prog 5 cB8 (fun x => 0 ≤ x.v ∧ x.v ≤ 255) := by
  intro H enc w base spare held fuel cs x h
  obtain ⟨n, rfl, _, hw⟩ := DataW.trod_int Tryz.underlying5 h
  refine ⟨⟨n⟩, reads_one rfl (.v _ rfl), ?_⟩
  simp [Lit.wf, IntKind.min, IntKind.max, IntKind.signed, IntKind.bits] at hw
  exact ⟨by show 0 ≤ n; omega, by show n ≤ 255; omega⟩
theorem cells_b8 : Tryz.prog.cellsOf 5 = 1 := by kernel_rfl
end Go.Proofs.YtmcdjilbkmhfoaaGreat
namespace Go.Proofs.YtmcdjilbkmhfoaaGreat
set_option maxRecDepth 10000
open Go.RowKit
set_option linter.unusedVariables false
set_option linter.unusedSimpArgs false
theorem w64_in {n : Int} (h : -9223372036854775808 ≤ n ∧ n ≤ 9223372036854775807) : w64 n = n := IntWalk.i64_in n h
theorem w64_nat {i n : Nat} (hi : i < n) (hn : n ≤ 1152921504606846976) : w64 ((i : Int) + 1) = ((i + 1 : Nat) : Int) := by
  rw [w64_in (by omega)]; omega
theorem getI_nat {α : Type} {xs : List α} {i : Nat} : getI xs (i : Int) = xs[i]? := by
  unfold getI; rw [if_pos (by omega)]; simp
theorem chk_t {b : Bool} (h : b = true) : chk b = some () := by subst h; rfl
def runL {A α ο : Type} (F : Nat → A → α → Option (A ⊕ ο)) (E : A → Option ο) : Nat → List α → A → Option ο
  | _, [], a => E a
  | i, x :: xs, a => (F i a x).bind (selim (fun a' => runL F E (i + 1) xs a') some)
theorem iter_from {A α σ ο : Type} {xs : List α} {body : σ → Option (σ ⊕ ο)} {mk : A → Int → σ} {F : Nat → A → α → Option (A ⊕ ο)} {E : A → Option ο}
    (h1 : ∀ a (i : Nat) x, xs[i]? = some x → body (mk a i) = (F i a x).bind (selim (fun a' => some (.inl (mk a' ((i + 1 : Nat) : Int)))) (fun r => some (.inr r))))
    (h2 : ∀ a, body (mk a (xs.length : Int)) = (E a).bind fun r => some (.inr r)) :
    ∀ (ys : List α) (i : Nat) (N : Nat) (a : A), xs.drop i = ys → i ≤ xs.length → ys.length < N → iterF body N (mk a i) = runL F E i ys a
  | [], i, 0, a, _, _, hN => by omega
  | [], i, N + 1, a, hd, hi, hN => by
    have : i = xs.length := by have := congrArg List.length hd; simp at this; omega
    subst this
    simp only [iterF, runL, h2]
    cases E a <;> rfl
  | y :: ys, i, 0, a, _, _, hN => by simp at hN
  | y :: ys, i, N + 1, a, hd, hi, hN => by
    have hy : xs[i]? = some y := by
      have := congrArg (fun l => l[0]?) hd
      simpa using this
    have hlt : i < xs.length := (List.getElem?_eq_some_iff.1 hy).1
    have hd' : xs.drop (i + 1) = ys := by
      have := congrArg (List.drop 1) hd
      simpa [List.drop_drop] using this
    simp only [iterF, runL, h1 a i y hy]
    cases hF : F i a y with
    | none => rfl
    | some o =>
      cases o with
      | inl a' =>
        show iterF body N (mk a' ((i + 1 : Nat) : Int)) = runL F E (i + 1) ys a'
        exact iter_from h1 h2 ys (i + 1) N a' hd' hlt (by simp at hN; omega)
      | inr r => rfl
theorem iter_list {A α σ ο : Type} {xs : List α} {body : σ → Option (σ ⊕ ο)} {N : Nat} (mk : A → Int → σ) (F : Nat → A → α → Option (A ⊕ ο)) (E : A → Option ο)
    (h1 : ∀ a (i : Nat) x, xs[i]? = some x → body (mk a i) = (F i a x).bind (selim (fun a' => some (.inl (mk a' ((i + 1 : Nat) : Int)))) (fun r => some (.inr r))))
    (h2 : ∀ a, body (mk a (xs.length : Int)) = (E a).bind fun r => some (.inr r)) (hN : xs.length < N) (a : A) : iterF body N (mk a 0) = runL F E 0 xs a :=
  iter_from h1 h2 xs 0 N a rfl (Nat.zero_le _) hN
theorem iter_tot {σ ο : Type} {body : σ → Option (σ ⊕ ο)} (I : Nat → σ → Prop) (hI : ∀ k s, I k s → ∃ o, body s = some o ∧ ∀ s', o = .inl s' → ∃ k', k' < k ∧ I k' s') : ∀ (N k : Nat) (s : σ), I k s → k < N → ∃ o, iterF body N s = some o
  | 0, k, s, _, hN => by omega
  | N + 1, k, s, h, hN => by
    obtain ⟨o, hb, hn⟩ := hI k s h
    simp only [iterF, hb]
    cases o with
    | inr r => exact ⟨r, rfl⟩
    | inl s' =>
      obtain ⟨k', hk, hi⟩ := hn s' rfl
      exact iter_tot I hI N k' s' hi (by omega)
theorem iter_idx {ο : Type} {body : Int → Option (Int ⊕ ο)} {n : Nat} (hn : n < NN) (h : ∀ i : Nat, i < n → ∃ o, body (i : Int) = some o ∧ ∀ s', o = .inl s' → s' = ((i + 1 : Nat) : Int)) (he : ∃ r, body (n : Int) = some (.inr r)) : ∃ o, iterF body NN 0 = some o := by
  refine iter_tot (fun k s => ∃ i : Nat, i + k = n ∧ s = (i : Int)) ?_ NN n 0 ⟨0, by omega, rfl⟩ hn
  rintro k s ⟨i, hi, rfl⟩
  rcases Nat.lt_or_ge i n with hlt | hge
  · obtain ⟨o, ho, hs⟩ := h i hlt
    exact ⟨o, ho, fun s' e => ⟨k - 1, by omega, i + 1, by omega, hs s' e⟩⟩
  · obtain ⟨r, hr⟩ := he
    have : i = n := by omega
    subst this
    exact ⟨_, hr, fun s' e => by cases e⟩
theorem st_go {ο : Type} {x : Option (Int ⊕ ο)} {i : Nat} (e : x = some (.inl ((i + 1 : Nat) : Int))) : ∃ o, x = some o ∧ ∀ s', o = .inl s' → s' = ((i + 1 : Nat) : Int) := ⟨_, e, by rintro s' h; cases h; rfl⟩
theorem st_out {ο : Type} {x : Option (Int ⊕ ο)} {i : Nat} {r : ο} (e : x = some (.inr r)) : ∃ o, x = some o ∧ ∀ s', o = .inl s' → s' = ((i + 1 : Nat) : Int) := ⟨_, e, by rintro s' h; cases h⟩
theorem iter_check {ο : Type} {body : Int → Option (Int ⊕ ο)} {n : Nat} {c : Nat → Bool} {r e : ο} (h1 : ∀ i : Nat, i < n → (∀ j, j < i → c j = true) → body (i : Int) = some (if c i = true then .inl ((i + 1 : Nat) : Int) else .inr r)) (h2 : (∀ j, j < n → c j = true) → body (n : Int) = some (.inr e)) (hN : n < NN) :
    iterF body NN 0 = some (if (List.range n).all c = true then e else r) := by
  have key : ∀ (k i N : Nat), i + k = n → k < N → (∀ j, j < i → c j = true) → iterF body N (i : Int) = some (if (List.range n).all c = true then e else r) := by
    intro k
    induction k with
    | zero =>
      intro i N hi hk hj
      cases N with
      | zero => omega
      | succ N =>
        have : i = n := by omega
        subst this
        simp only [iterF, h2 hj]
        show some e = _
        rw [if_pos (List.all_eq_true.2 fun x hx => hj x (List.mem_range.1 hx))]
    | succ k ih =>
      intro i N hi hk hj
      cases N with
      | zero => omega
      | succ N =>
        simp only [iterF, h1 i (by omega) hj]
        by_cases hc : c i = true
        · rw [if_pos hc]
          exact ih (i + 1) N (by omega) (by omega) (fun j hj' => by
            rcases Nat.lt_or_ge j i with h | h
            · exact hj j h
            · have : j = i := by omega
              rw [this]; exact hc)
        · rw [if_neg hc]
          show some r = _
          rw [if_neg fun hall => hc (List.all_eq_true.1 hall i (List.mem_range.2 (by omega)))]
  exact key n 0 NN (by omega) hN (fun j hj => by omega)
theorem range_all {α : Type} (xs : List α) (p : α → Bool) (c : Nat → Bool) (h : ∀ i (hi : i < xs.length), c i = p xs[i]) : (List.range xs.length).all c = xs.all p := by
  rw [Bool.eq_iff_iff, List.all_eq_true, List.all_eq_true]
  constructor
  · intro H x hx
    obtain ⟨i, hi, rfl⟩ := List.getElem_of_mem hx
    rw [← h i hi]; exact H i (List.mem_range.2 hi)
  · intro H i hi
    have hi' := List.mem_range.1 hi
    rw [h i hi']; exact H _ (List.getElem_mem hi')
theorem iter_find {α ο : Type} {xs : List α} {body : Int → Option (Int ⊕ ο)} {p : α → Bool} {r e : ο} (h1 : ∀ i (hi : i < xs.length), body (i : Int) = some (if p xs[i] = true then .inr r else .inl ((i + 1 : Nat) : Int))) (h2 : body (xs.length : Int) = some (.inr e)) (hN : xs.length < NN) :
    iterF body NN 0 = some (if xs.any p = true then r else e) := by
  rw [iter_check (n := xs.length) (c := fun i => (xs[i]?.map fun x => !p x).getD true) (r := r) (e := e) (fun i hi _ => ?_) (fun _ => h2) hN, range_all xs (fun x => !p x) _ (fun i hi => by simp [hi])]
  · rw [List.all_eq_not_any_not]
    cases hb : xs.any p with
    | true => simp [hb]
    | false => simp [hb]
  · rw [h1 i hi]
    simp only [List.getElem?_eq_getElem hi, Option.map_some, Option.getD_some]
    cases p xs[i] <;> rfl
end Go.Proofs.YtmcdjilbkmhfoaaGreat
