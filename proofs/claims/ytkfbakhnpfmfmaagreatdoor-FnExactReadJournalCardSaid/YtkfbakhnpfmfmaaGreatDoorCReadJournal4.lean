/- A part of the proof of the statement in the last file of this claim: texts on the language of the program and on its functions. No condition. -/
import Derived.Test.YtkfbakhnpfmfmaaGreatDoorProg
import Derived.Test.YtkfbakhnpfmfmaaGreatDoorCReadJournal3
import Derived.IntWalk
set_option linter.unusedVariables false
set_option linter.unusedSimpArgs false
set_option linter.unusedSectionVars false
namespace Go.Proofs.YtkfbakhnpfmfmaaGreatDoor
open Go.RowKit
set_option maxRecDepth 10000
attribute [go_sem] Tryz.underlying2
@[go_sem] theorem tc2 : Tryz.prog.cellsOf 2 = 1 := by kernel_rfl
@[go_sem] theorem tb2 : Tryz.prog.bytesOf 2 = 8 := by kernel_rfl
@[go_sem] theorem tz2 : pz Tryz.prog 2 = some [.v (.int .i64 0)] := by kernel_rfl
attribute [go_sem] Tryz.underlying3
@[go_sem] theorem tc3 : Tryz.prog.cellsOf 3 = 1 := by kernel_rfl
@[go_sem] theorem tb3 : Tryz.prog.bytesOf 3 = 8 := by kernel_rfl
@[go_sem] theorem tz3 : pz Tryz.prog 3 = some [.v (.int .i64 0)] := by kernel_rfl
attribute [go_sem] Tryz.underlying4
@[go_sem] theorem tc4 : Tryz.prog.cellsOf 4 = 1 := by kernel_rfl
@[go_sem] theorem tb4 : Tryz.prog.bytesOf 4 = 1 := by kernel_rfl
@[go_sem] theorem tz4 : pz Tryz.prog 4 = some [.v (.bool false)] := by kernel_rfl
attribute [go_sem] Tryz.underlying5
@[go_sem] theorem tc5 : Tryz.prog.cellsOf 5 = 1 := by kernel_rfl
@[go_sem] theorem tb5 : Tryz.prog.bytesOf 5 = 1 := by kernel_rfl
@[go_sem] theorem tz5 : pz Tryz.prog 5 = some [.v (.int .u8 0)] := by kernel_rfl
attribute [go_sem] Tryz.underlying9
@[go_sem] theorem tc9 : Tryz.prog.cellsOf 9 = 1 := by kernel_rfl
@[go_sem] theorem tb9 : Tryz.prog.bytesOf 9 = 16 := by kernel_rfl
@[go_sem] theorem tz9 : pz Tryz.prog 9 = some [.v (.string ⟨#[]⟩)] := by kernel_rfl
attribute [go_sem] Tryz.underlying12
@[go_sem] theorem tc12 : Tryz.prog.cellsOf 12 = 1 := by kernel_rfl
@[go_sem] theorem tb12 : Tryz.prog.bytesOf 12 = 8 := by kernel_rfl
@[go_sem] theorem tz12 : pz Tryz.prog 12 = some [.v (.int .u64 0)] := by kernel_rfl
attribute [go_sem] Tryz.underlying21
@[go_sem] theorem tc21 : Tryz.prog.cellsOf 21 = 1 := by kernel_rfl
@[go_sem] theorem tb21 : Tryz.prog.bytesOf 21 = 4 := by kernel_rfl
@[go_sem] theorem tz21 : pz Tryz.prog 21 = some [.v (.int .i32 0)] := by kernel_rfl
attribute [go_sem] Tryz.underlying22
@[go_sem] theorem tc22 : Tryz.prog.cellsOf 22 = 3 := by kernel_rfl
@[go_sem] theorem tb22 : Tryz.prog.bytesOf 22 = 32 := by kernel_rfl
@[go_sem] theorem tz22 : pz Tryz.prog 22 = some [.v (.int .i64 0), .v (.int .i64 0), .v (.string ⟨#[]⟩)] := by kernel_rfl
@[go_sem] theorem te22 : Tryz.prog.eqGuardType Tryz.prog.depth 22 = false := by kernel_rfl
@[go_sem] theorem ts22 : Tryz.prog.stoodInHeld 22 = false := by kernel_rfl
attribute [go_sem] Tryz.underlying23
@[go_sem] theorem tc23 : Tryz.prog.cellsOf 23 = 3 := by kernel_rfl
@[go_sem] theorem tb23 : Tryz.prog.bytesOf 23 = 32 := by kernel_rfl
@[go_sem] theorem tz23 : pz Tryz.prog 23 = some [.v (.int .i64 0), .v (.int .i64 0), .v (.string ⟨#[]⟩)] := by kernel_rfl
@[go_sem] theorem te23 : Tryz.prog.eqGuardType Tryz.prog.depth 23 = false := by kernel_rfl
@[go_sem] theorem ts23 : Tryz.prog.stoodInHeld 23 = false := by kernel_rfl
attribute [go_sem] Tryz.underlying24
@[go_sem] theorem tc24 : Tryz.prog.cellsOf 24 = 1 := by kernel_rfl
@[go_sem] theorem tb24 : Tryz.prog.bytesOf 24 = 24 := by kernel_rfl
@[go_sem] theorem tz24 : pz Tryz.prog 24 = some [.v (.slice none 0 0)] := by kernel_rfl
@[go_sem] theorem tk24 : elemK Tryz.prog 24 = 1 := by kernel_rfl
attribute [go_sem] Tryz.underlying25
@[go_sem] theorem tc25 : Tryz.prog.cellsOf 25 = 7 := by kernel_rfl
@[go_sem] theorem tb25 : Tryz.prog.bytesOf 25 = 88 := by kernel_rfl
@[go_sem] theorem tz25 : pz Tryz.prog 25 = some [.v (.int .i64 0), .v (.int .i64 0), .v (.string ⟨#[]⟩), .v (.string ⟨#[]⟩), .v (.int .i64 0), .v (.slice none 0 0), .v (.int .i64 0)] := by kernel_rfl
@[go_sem] theorem te25 : Tryz.prog.eqGuardType Tryz.prog.depth 25 = false := by kernel_rfl
@[go_sem] theorem ts25 : Tryz.prog.stoodInHeld 25 = false := by kernel_rfl
attribute [go_sem] Tryz.underlying26
@[go_sem] theorem tc26 : Tryz.prog.cellsOf 26 = 7 := by kernel_rfl
@[go_sem] theorem tb26 : Tryz.prog.bytesOf 26 = 88 := by kernel_rfl
@[go_sem] theorem tz26 : pz Tryz.prog 26 = some [.v (.int .i64 0), .v (.int .i64 0), .v (.string ⟨#[]⟩), .v (.string ⟨#[]⟩), .v (.int .i64 0), .v (.slice none 0 0), .v (.int .i64 0)] := by kernel_rfl
@[go_sem] theorem te26 : Tryz.prog.eqGuardType Tryz.prog.depth 26 = false := by kernel_rfl
@[go_sem] theorem ts26 : Tryz.prog.stoodInHeld 26 = false := by kernel_rfl
attribute [go_sem] Tryz.underlying27
@[go_sem] theorem tc27 : Tryz.prog.cellsOf 27 = 2 := by kernel_rfl
@[go_sem] theorem tb27 : Tryz.prog.bytesOf 27 = 16 := by kernel_rfl
@[go_sem] theorem tz27 : pz Tryz.prog 27 = some [.v (.int .i64 0), .v (.int .i64 0)] := by kernel_rfl
@[go_sem] theorem te27 : Tryz.prog.eqGuardType Tryz.prog.depth 27 = false := by kernel_rfl
@[go_sem] theorem ts27 : Tryz.prog.stoodInHeld 27 = false := by kernel_rfl
attribute [go_sem] Tryz.underlying28
@[go_sem] theorem tc28 : Tryz.prog.cellsOf 28 = 2 := by kernel_rfl
@[go_sem] theorem tb28 : Tryz.prog.bytesOf 28 = 16 := by kernel_rfl
@[go_sem] theorem tz28 : pz Tryz.prog 28 = some [.v (.int .i64 0), .v (.int .i64 0)] := by kernel_rfl
@[go_sem] theorem te28 : Tryz.prog.eqGuardType Tryz.prog.depth 28 = false := by kernel_rfl
@[go_sem] theorem ts28 : Tryz.prog.stoodInHeld 28 = false := by kernel_rfl
attribute [go_sem] Tryz.underlying29
@[go_sem] theorem tc29 : Tryz.prog.cellsOf 29 = 13 := by kernel_rfl
@[go_sem] theorem tb29 : Tryz.prog.bytesOf 29 = 136 := by kernel_rfl
@[go_sem] theorem tz29 : pz Tryz.prog 29 = some [.v (.int .i64 0), .v (.int .i64 0), .v (.int .i64 0), .v (.string ⟨#[]⟩), .v (.string ⟨#[]⟩), .v (.int .i64 0), .v (.slice none 0 0), .v (.int .i64 0), .v (.int .i64 0), .v (.int .i64 0), .v (.int .i64 0), .v (.int .i64 0), .v (.int .i64 0)] := by kernel_rfl
@[go_sem] theorem te29 : Tryz.prog.eqGuardType Tryz.prog.depth 29 = false := by kernel_rfl
@[go_sem] theorem ts29 : Tryz.prog.stoodInHeld 29 = false := by kernel_rfl
attribute [go_sem] Tryz.underlying30
@[go_sem] theorem tc30 : Tryz.prog.cellsOf 30 = 13 := by kernel_rfl
@[go_sem] theorem tb30 : Tryz.prog.bytesOf 30 = 136 := by kernel_rfl
@[go_sem] theorem tz30 : pz Tryz.prog 30 = some [.v (.int .i64 0), .v (.int .i64 0), .v (.int .i64 0), .v (.string ⟨#[]⟩), .v (.string ⟨#[]⟩), .v (.int .i64 0), .v (.slice none 0 0), .v (.int .i64 0), .v (.int .i64 0), .v (.int .i64 0), .v (.int .i64 0), .v (.int .i64 0), .v (.int .i64 0)] := by kernel_rfl
@[go_sem] theorem te30 : Tryz.prog.eqGuardType Tryz.prog.depth 30 = false := by kernel_rfl
@[go_sem] theorem ts30 : Tryz.prog.stoodInHeld 30 = false := by kernel_rfl
attribute [go_sem] Tryz.underlying36
@[go_sem] theorem tc36 : Tryz.prog.cellsOf 36 = 1 := by kernel_rfl
@[go_sem] theorem tb36 : Tryz.prog.bytesOf 36 = 24 := by kernel_rfl
@[go_sem] theorem tz36 : pz Tryz.prog 36 = some [.v (.slice none 0 0)] := by kernel_rfl
@[go_sem] theorem tk36 : elemK Tryz.prog 36 = 13 := by kernel_rfl
attribute [go_sem] Tryz.underlying40
@[go_sem] theorem tc40 : Tryz.prog.cellsOf 40 = 1 := by kernel_rfl
@[go_sem] theorem tb40 : Tryz.prog.bytesOf 40 = 24 := by kernel_rfl
@[go_sem] theorem tz40 : pz Tryz.prog 40 = some [.v (.slice none 0 0)] := by kernel_rfl
@[go_sem] theorem tk40 : elemK Tryz.prog 40 = 1 := by kernel_rfl
attribute [go_sem] Tryz.underlying45
@[go_sem] theorem tc45 : Tryz.prog.cellsOf 45 = 1 := by kernel_rfl
@[go_sem] theorem tb45 : Tryz.prog.bytesOf 45 = 24 := by kernel_rfl
@[go_sem] theorem tz45 : pz Tryz.prog 45 = some [.v (.slice none 0 0)] := by kernel_rfl
@[go_sem] theorem tk45 : elemK Tryz.prog 45 = 1 := by kernel_rfl
attribute [go_sem] Tryz.underlying78
@[go_sem] theorem tc78 : Tryz.prog.cellsOf 78 = 1 := by kernel_rfl
@[go_sem] theorem tb78 : Tryz.prog.bytesOf 78 = 24 := by kernel_rfl
@[go_sem] theorem tz78 : pz Tryz.prog 78 = some [.v (.slice none 0 0)] := by kernel_rfl
@[go_sem] theorem tk78 : elemK Tryz.prog 78 = 6 := by kernel_rfl
attribute [go_sem] Tryz.underlying79
@[go_sem] theorem tc79 : Tryz.prog.cellsOf 79 = 3 := by kernel_rfl
@[go_sem] theorem tb79 : Tryz.prog.bytesOf 79 = 56 := by kernel_rfl
@[go_sem] theorem tz79 : pz Tryz.prog 79 = some [.v (.slice none 0 0), .v (.slice none 0 0), .v (.int .i64 0)] := by kernel_rfl
@[go_sem] theorem te79 : Tryz.prog.eqGuardType Tryz.prog.depth 79 = false := by kernel_rfl
@[go_sem] theorem ts79 : Tryz.prog.stoodInHeld 79 = false := by kernel_rfl
attribute [go_sem] Tryz.underlying80
@[go_sem] theorem tc80 : Tryz.prog.cellsOf 80 = 3 := by kernel_rfl
@[go_sem] theorem tb80 : Tryz.prog.bytesOf 80 = 56 := by kernel_rfl
@[go_sem] theorem tz80 : pz Tryz.prog 80 = some [.v (.slice none 0 0), .v (.slice none 0 0), .v (.int .i64 0)] := by kernel_rfl
@[go_sem] theorem te80 : Tryz.prog.eqGuardType Tryz.prog.depth 80 = false := by kernel_rfl
@[go_sem] theorem ts80 : Tryz.prog.stoodInHeld 80 = false := by kernel_rfl
attribute [go_sem] Tryz.underlying81
@[go_sem] theorem tc81 : Tryz.prog.cellsOf 81 = 1 := by kernel_rfl
@[go_sem] theorem tb81 : Tryz.prog.bytesOf 81 = 24 := by kernel_rfl
@[go_sem] theorem tz81 : pz Tryz.prog 81 = some [.v (.slice none 0 0)] := by kernel_rfl
@[go_sem] theorem tk81 : elemK Tryz.prog 81 = 11 := by kernel_rfl
attribute [go_sem] Tryz.underlying82
@[go_sem] theorem tc82 : Tryz.prog.cellsOf 82 = 1 := by kernel_rfl
@[go_sem] theorem tb82 : Tryz.prog.bytesOf 82 = 24 := by kernel_rfl
@[go_sem] theorem tz82 : pz Tryz.prog 82 = some [.v (.slice none 0 0)] := by kernel_rfl
@[go_sem] theorem tk82 : elemK Tryz.prog 82 = 4 := by kernel_rfl
attribute [go_sem] Tryz.underlying83
@[go_sem] theorem tc83 : Tryz.prog.cellsOf 83 = 1 := by kernel_rfl
@[go_sem] theorem tb83 : Tryz.prog.bytesOf 83 = 24 := by kernel_rfl
@[go_sem] theorem tz83 : pz Tryz.prog 83 = some [.v (.slice none 0 0)] := by kernel_rfl
@[go_sem] theorem tk83 : elemK Tryz.prog 83 = 2 := by kernel_rfl
attribute [go_sem] Tryz.underlying84
@[go_sem] theorem tc84 : Tryz.prog.cellsOf 84 = 1 := by kernel_rfl
@[go_sem] theorem tb84 : Tryz.prog.bytesOf 84 = 24 := by kernel_rfl
@[go_sem] theorem tz84 : pz Tryz.prog 84 = some [.v (.slice none 0 0)] := by kernel_rfl
@[go_sem] theorem tk84 : elemK Tryz.prog 84 = 6 := by kernel_rfl
attribute [go_sem] Tryz.underlying85
@[go_sem] theorem tc85 : Tryz.prog.cellsOf 85 = 10 := by kernel_rfl
@[go_sem] theorem tb85 : Tryz.prog.bytesOf 85 = 192 := by kernel_rfl
@[go_sem] theorem tz85 : pz Tryz.prog 85 = some [.v (.slice none 0 0), .v (.slice none 0 0), .v (.int .i64 0), .v (.slice none 0 0), .v (.slice none 0 0), .v (.slice none 0 0), .v (.int .i64 0), .v (.slice none 0 0), .v (.slice none 0 0), .v (.int .i64 0)] := by kernel_rfl
@[go_sem] theorem te85 : Tryz.prog.eqGuardType Tryz.prog.depth 85 = false := by kernel_rfl
@[go_sem] theorem ts85 : Tryz.prog.stoodInHeld 85 = false := by kernel_rfl
attribute [go_sem] Tryz.underlying86
@[go_sem] theorem tc86 : Tryz.prog.cellsOf 86 = 10 := by kernel_rfl
@[go_sem] theorem tb86 : Tryz.prog.bytesOf 86 = 192 := by kernel_rfl
@[go_sem] theorem tz86 : pz Tryz.prog 86 = some [.v (.slice none 0 0), .v (.slice none 0 0), .v (.int .i64 0), .v (.slice none 0 0), .v (.slice none 0 0), .v (.slice none 0 0), .v (.int .i64 0), .v (.slice none 0 0), .v (.slice none 0 0), .v (.int .i64 0)] := by kernel_rfl
@[go_sem] theorem te86 : Tryz.prog.eqGuardType Tryz.prog.depth 86 = false := by kernel_rfl
@[go_sem] theorem ts86 : Tryz.prog.stoodInHeld 86 = false := by kernel_rfl
attribute [go_sem] Tryz.underlying87
@[go_sem] theorem tc87 : Tryz.prog.cellsOf 87 = 1 := by kernel_rfl
@[go_sem] theorem tb87 : Tryz.prog.bytesOf 87 = 24 := by kernel_rfl
@[go_sem] theorem tz87 : pz Tryz.prog 87 = some [.v (.slice none 0 0)] := by kernel_rfl
@[go_sem] theorem tk87 : elemK Tryz.prog 87 = 2 := by kernel_rfl
attribute [go_sem] Tryz.underlying88
@[go_sem] theorem tc88 : Tryz.prog.cellsOf 88 = 1 := by kernel_rfl
@[go_sem] theorem tb88 : Tryz.prog.bytesOf 88 = 24 := by kernel_rfl
@[go_sem] theorem tz88 : pz Tryz.prog 88 = some [.v (.slice none 0 0)] := by kernel_rfl
@[go_sem] theorem tk88 : elemK Tryz.prog 88 = 4 := by kernel_rfl
attribute [go_sem] Tryz.underlying89
@[go_sem] theorem tc89 : Tryz.prog.cellsOf 89 = 1 := by kernel_rfl
@[go_sem] theorem tb89 : Tryz.prog.bytesOf 89 = 24 := by kernel_rfl
@[go_sem] theorem tz89 : pz Tryz.prog 89 = some [.v (.slice none 0 0)] := by kernel_rfl
@[go_sem] theorem tk89 : elemK Tryz.prog 89 = 7 := by kernel_rfl
attribute [go_sem] Tryz.underlying90
@[go_sem] theorem tc90 : Tryz.prog.cellsOf 90 = 1 := by kernel_rfl
@[go_sem] theorem tb90 : Tryz.prog.bytesOf 90 = 24 := by kernel_rfl
@[go_sem] theorem tz90 : pz Tryz.prog 90 = some [.v (.slice none 0 0)] := by kernel_rfl
@[go_sem] theorem tk90 : elemK Tryz.prog 90 = 4 := by kernel_rfl
attribute [go_sem] Tryz.underlying91
@[go_sem] theorem tc91 : Tryz.prog.cellsOf 91 = 16 := by kernel_rfl
@[go_sem] theorem tb91 : Tryz.prog.bytesOf 91 = 336 := by kernel_rfl
@[go_sem] theorem tz91 : pz Tryz.prog 91 = some [.v (.slice none 0 0), .v (.slice none 0 0), .v (.int .i64 0), .v (.slice none 0 0), .v (.slice none 0 0), .v (.slice none 0 0), .v (.int .i64 0), .v (.slice none 0 0), .v (.slice none 0 0), .v (.int .i64 0), .v (.slice none 0 0), .v (.slice none 0 0), .v (.slice none 0 0), .v (.slice none 0 0), .v (.slice none 0 0), .v (.slice none 0 0)] := by kernel_rfl
@[go_sem] theorem te91 : Tryz.prog.eqGuardType Tryz.prog.depth 91 = false := by kernel_rfl
@[go_sem] theorem ts91 : Tryz.prog.stoodInHeld 91 = false := by kernel_rfl
attribute [go_sem] Tryz.underlying92
@[go_sem] theorem tc92 : Tryz.prog.cellsOf 92 = 16 := by kernel_rfl
@[go_sem] theorem tb92 : Tryz.prog.bytesOf 92 = 336 := by kernel_rfl
@[go_sem] theorem tz92 : pz Tryz.prog 92 = some [.v (.slice none 0 0), .v (.slice none 0 0), .v (.int .i64 0), .v (.slice none 0 0), .v (.slice none 0 0), .v (.slice none 0 0), .v (.int .i64 0), .v (.slice none 0 0), .v (.slice none 0 0), .v (.int .i64 0), .v (.slice none 0 0), .v (.slice none 0 0), .v (.slice none 0 0), .v (.slice none 0 0), .v (.slice none 0 0), .v (.slice none 0 0)] := by kernel_rfl
@[go_sem] theorem te92 : Tryz.prog.eqGuardType Tryz.prog.depth 92 = false := by kernel_rfl
@[go_sem] theorem ts92 : Tryz.prog.stoodInHeld 92 = false := by kernel_rfl
attribute [go_sem] Tryz.underlying101
@[go_sem] theorem tc101 : Tryz.prog.cellsOf 101 = 3 := by kernel_rfl
@[go_sem] theorem tb101 : Tryz.prog.bytesOf 101 = 40 := by kernel_rfl
@[go_sem] theorem tz101 : pz Tryz.prog 101 = some [.v (.slice none 0 0), .v (.int .i64 0), .v (.int .i64 0)] := by kernel_rfl
@[go_sem] theorem te101 : Tryz.prog.eqGuardType Tryz.prog.depth 101 = false := by kernel_rfl
@[go_sem] theorem ts101 : Tryz.prog.stoodInHeld 101 = false := by kernel_rfl
attribute [go_sem] Tryz.underlying102
@[go_sem] theorem tc102 : Tryz.prog.cellsOf 102 = 3 := by kernel_rfl
@[go_sem] theorem tb102 : Tryz.prog.bytesOf 102 = 40 := by kernel_rfl
@[go_sem] theorem tz102 : pz Tryz.prog 102 = some [.v (.slice none 0 0), .v (.int .i64 0), .v (.int .i64 0)] := by kernel_rfl
@[go_sem] theorem te102 : Tryz.prog.eqGuardType Tryz.prog.depth 102 = false := by kernel_rfl
@[go_sem] theorem ts102 : Tryz.prog.stoodInHeld 102 = false := by kernel_rfl
attribute [go_sem] Tryz.underlying113
@[go_sem] theorem tc113 : Tryz.prog.cellsOf 113 = 1 := by kernel_rfl
@[go_sem] theorem tb113 : Tryz.prog.bytesOf 113 = 8 := by kernel_rfl
@[go_sem] theorem tz113 : pz Tryz.prog 113 = some [.v (.int .u64 0)] := by kernel_rfl
attribute [go_sem] Tryz.underlying132
@[go_sem] theorem tc132 : Tryz.prog.cellsOf 132 = 6 := by kernel_rfl
@[go_sem] theorem tb132 : Tryz.prog.bytesOf 132 = 64 := by kernel_rfl
@[go_sem] theorem tz132 : pz Tryz.prog 132 = some [.v (.string ⟨#[]⟩), .v (.string ⟨#[]⟩), .v (.int .i64 0), .v (.int .i64 0), .v (.int .i64 0), .v (.int .i64 0)] := by kernel_rfl
@[go_sem] theorem te132 : Tryz.prog.eqGuardType Tryz.prog.depth 132 = false := by kernel_rfl
@[go_sem] theorem ts132 : Tryz.prog.stoodInHeld 132 = false := by kernel_rfl
attribute [go_sem] Tryz.underlying133
@[go_sem] theorem tc133 : Tryz.prog.cellsOf 133 = 6 := by kernel_rfl
@[go_sem] theorem tb133 : Tryz.prog.bytesOf 133 = 64 := by kernel_rfl
@[go_sem] theorem tz133 : pz Tryz.prog 133 = some [.v (.string ⟨#[]⟩), .v (.string ⟨#[]⟩), .v (.int .i64 0), .v (.int .i64 0), .v (.int .i64 0), .v (.int .i64 0)] := by kernel_rfl
@[go_sem] theorem te133 : Tryz.prog.eqGuardType Tryz.prog.depth 133 = false := by kernel_rfl
@[go_sem] theorem ts133 : Tryz.prog.stoodInHeld 133 = false := by kernel_rfl
attribute [go_sem] Tryz.underlying134
@[go_sem] theorem tc134 : Tryz.prog.cellsOf 134 = 2 := by kernel_rfl
@[go_sem] theorem tb134 : Tryz.prog.bytesOf 134 = 32 := by kernel_rfl
@[go_sem] theorem tz134 : pz Tryz.prog 134 = some [.v (.string ⟨#[]⟩), .v (.string ⟨#[]⟩)] := by kernel_rfl
@[go_sem] theorem te134 : Tryz.prog.eqGuardType Tryz.prog.depth 134 = false := by kernel_rfl
@[go_sem] theorem ts134 : Tryz.prog.stoodInHeld 134 = false := by kernel_rfl
attribute [go_sem] Tryz.underlying135
@[go_sem] theorem tc135 : Tryz.prog.cellsOf 135 = 2 := by kernel_rfl
@[go_sem] theorem tb135 : Tryz.prog.bytesOf 135 = 32 := by kernel_rfl
@[go_sem] theorem tz135 : pz Tryz.prog 135 = some [.v (.string ⟨#[]⟩), .v (.string ⟨#[]⟩)] := by kernel_rfl
@[go_sem] theorem te135 : Tryz.prog.eqGuardType Tryz.prog.depth 135 = false := by kernel_rfl
@[go_sem] theorem ts135 : Tryz.prog.stoodInHeld 135 = false := by kernel_rfl
attribute [go_sem] Tryz.underlying136
@[go_sem] theorem tc136 : Tryz.prog.cellsOf 136 = 4 := by kernel_rfl
@[go_sem] theorem tb136 : Tryz.prog.bytesOf 136 = 32 := by kernel_rfl
@[go_sem] theorem tz136 : pz Tryz.prog 136 = some [.v (.int .i64 0), .v (.int .i64 0), .v (.int .i64 0), .v (.int .i64 0)] := by kernel_rfl
@[go_sem] theorem te136 : Tryz.prog.eqGuardType Tryz.prog.depth 136 = false := by kernel_rfl
@[go_sem] theorem ts136 : Tryz.prog.stoodInHeld 136 = false := by kernel_rfl
attribute [go_sem] Tryz.underlying137
@[go_sem] theorem tc137 : Tryz.prog.cellsOf 137 = 4 := by kernel_rfl
@[go_sem] theorem tb137 : Tryz.prog.bytesOf 137 = 32 := by kernel_rfl
@[go_sem] theorem tz137 : pz Tryz.prog 137 = some [.v (.int .i64 0), .v (.int .i64 0), .v (.int .i64 0), .v (.int .i64 0)] := by kernel_rfl
@[go_sem] theorem te137 : Tryz.prog.eqGuardType Tryz.prog.depth 137 = false := by kernel_rfl
@[go_sem] theorem ts137 : Tryz.prog.stoodInHeld 137 = false := by kernel_rfl
attribute [go_sem] Tryz.underlying154
@[go_sem] theorem tc154 : Tryz.prog.cellsOf 154 = 1 := by kernel_rfl
@[go_sem] theorem tb154 : Tryz.prog.bytesOf 154 = 4 := by kernel_rfl
@[go_sem] theorem tz154 : pz Tryz.prog 154 = some [.v (.int .u32 0)] := by kernel_rfl
attribute [go_sem] Tryz.underlying157
@[go_sem] theorem tc157 : Tryz.prog.cellsOf 157 = 1 := by kernel_rfl
@[go_sem] theorem tb157 : Tryz.prog.bytesOf 157 = 8 := by kernel_rfl
@[go_sem] theorem tz157 : pz Tryz.prog 157 = some [.v (.int .u64 0)] := by kernel_rfl
attribute [go_sem] Tryz.underlying174
@[go_sem] theorem tc174 : Tryz.prog.cellsOf 174 = 4 := by kernel_rfl
@[go_sem] theorem tb174 : Tryz.prog.bytesOf 174 = 32 := by kernel_rfl
@[go_sem] theorem tz174 : pz Tryz.prog 174 = some [.v (.int .i64 0), .v (.int .i64 0), .v (.int .i64 0), .v (.int .i64 0)] := by kernel_rfl
@[go_sem] theorem te174 : Tryz.prog.eqGuardType Tryz.prog.depth 174 = false := by kernel_rfl
@[go_sem] theorem ts174 : Tryz.prog.stoodInHeld 174 = false := by kernel_rfl
attribute [go_sem] Tryz.underlying175
@[go_sem] theorem tc175 : Tryz.prog.cellsOf 175 = 4 := by kernel_rfl
@[go_sem] theorem tb175 : Tryz.prog.bytesOf 175 = 32 := by kernel_rfl
@[go_sem] theorem tz175 : pz Tryz.prog 175 = some [.v (.int .i64 0), .v (.int .i64 0), .v (.int .i64 0), .v (.int .i64 0)] := by kernel_rfl
@[go_sem] theorem te175 : Tryz.prog.eqGuardType Tryz.prog.depth 175 = false := by kernel_rfl
@[go_sem] theorem ts175 : Tryz.prog.stoodInHeld 175 = false := by kernel_rfl
attribute [go_sem] Tryz.underlying180
@[go_sem] theorem tc180 : Tryz.prog.cellsOf 180 = 1 := by kernel_rfl
@[go_sem] theorem tb180 : Tryz.prog.bytesOf 180 = 24 := by kernel_rfl
@[go_sem] theorem tz180 : pz Tryz.prog 180 = some [.v (.slice none 0 0)] := by kernel_rfl
@[go_sem] theorem tk180 : elemK Tryz.prog 180 = 1 := by kernel_rfl
attribute [go_sem] Tryz.underlying187
@[go_sem] theorem tc187 : Tryz.prog.cellsOf 187 = 4 := by kernel_rfl
@[go_sem] theorem tb187 : Tryz.prog.bytesOf 187 = 32 := by kernel_rfl
@[go_sem] theorem tz187 : pz Tryz.prog 187 = some [.v (.int .i64 0), .v (.int .i64 0), .v (.int .i64 0), .v (.int .i64 0)] := by kernel_rfl
@[go_sem] theorem te187 : Tryz.prog.eqGuardType Tryz.prog.depth 187 = false := by kernel_rfl
@[go_sem] theorem ts187 : Tryz.prog.stoodInHeld 187 = false := by kernel_rfl
attribute [go_sem] Tryz.underlying188
@[go_sem] theorem tc188 : Tryz.prog.cellsOf 188 = 4 := by kernel_rfl
@[go_sem] theorem tb188 : Tryz.prog.bytesOf 188 = 32 := by kernel_rfl
@[go_sem] theorem tz188 : pz Tryz.prog 188 = some [.v (.int .i64 0), .v (.int .i64 0), .v (.int .i64 0), .v (.int .i64 0)] := by kernel_rfl
@[go_sem] theorem te188 : Tryz.prog.eqGuardType Tryz.prog.depth 188 = false := by kernel_rfl
@[go_sem] theorem ts188 : Tryz.prog.stoodInHeld 188 = false := by kernel_rfl
attribute [go_sem] Tryz.underlying225
@[go_sem] theorem tc225 : Tryz.prog.cellsOf 225 = 11 := by kernel_rfl
@[go_sem] theorem tb225 : Tryz.prog.bytesOf 225 = 128 := by kernel_rfl
@[go_sem] theorem tz225 : pz Tryz.prog 225 = some [.v (.string ⟨#[]⟩), .v (.string ⟨#[]⟩), .v (.int .i64 0), .v (.int .i64 0), .v (.int .i64 0), .v (.int .i64 0), .v (.slice none 0 0), .v (.int .i64 0), .v (.int .i64 0), .v (.string ⟨#[]⟩), .v (.int .i64 0)] := by kernel_rfl
@[go_sem] theorem te225 : Tryz.prog.eqGuardType Tryz.prog.depth 225 = false := by kernel_rfl
@[go_sem] theorem ts225 : Tryz.prog.stoodInHeld 225 = false := by kernel_rfl
attribute [go_sem] Tryz.underlying226
@[go_sem] theorem tc226 : Tryz.prog.cellsOf 226 = 11 := by kernel_rfl
@[go_sem] theorem tb226 : Tryz.prog.bytesOf 226 = 128 := by kernel_rfl
@[go_sem] theorem tz226 : pz Tryz.prog 226 = some [.v (.string ⟨#[]⟩), .v (.string ⟨#[]⟩), .v (.int .i64 0), .v (.int .i64 0), .v (.int .i64 0), .v (.int .i64 0), .v (.slice none 0 0), .v (.int .i64 0), .v (.int .i64 0), .v (.string ⟨#[]⟩), .v (.int .i64 0)] := by kernel_rfl
@[go_sem] theorem te226 : Tryz.prog.eqGuardType Tryz.prog.depth 226 = false := by kernel_rfl
@[go_sem] theorem ts226 : Tryz.prog.stoodInHeld 226 = false := by kernel_rfl
attribute [go_sem] Tryz.underlying232
@[go_sem] theorem tc232 : Tryz.prog.cellsOf 232 = 6 := by kernel_rfl
@[go_sem] theorem tb232 : Tryz.prog.bytesOf 232 = 56 := by kernel_rfl
@[go_sem] theorem tz232 : pz Tryz.prog 232 = some [.v (.int .i64 0), .v (.int .i64 0), .v (.int .i64 0), .v (.string ⟨#[]⟩), .v (.int .i64 0), .v (.int .i64 0)] := by kernel_rfl
@[go_sem] theorem te232 : Tryz.prog.eqGuardType Tryz.prog.depth 232 = false := by kernel_rfl
@[go_sem] theorem ts232 : Tryz.prog.stoodInHeld 232 = false := by kernel_rfl
attribute [go_sem] Tryz.underlying233
@[go_sem] theorem tc233 : Tryz.prog.cellsOf 233 = 6 := by kernel_rfl
@[go_sem] theorem tb233 : Tryz.prog.bytesOf 233 = 56 := by kernel_rfl
@[go_sem] theorem tz233 : pz Tryz.prog 233 = some [.v (.int .i64 0), .v (.int .i64 0), .v (.int .i64 0), .v (.string ⟨#[]⟩), .v (.int .i64 0), .v (.int .i64 0)] := by kernel_rfl
@[go_sem] theorem te233 : Tryz.prog.eqGuardType Tryz.prog.depth 233 = false := by kernel_rfl
@[go_sem] theorem ts233 : Tryz.prog.stoodInHeld 233 = false := by kernel_rfl
@[go_sem] theorem fn3 : isFn Tryz.prog 3 := ⟨_, Tryz.func3, rfl, by kernel_rfl⟩
@[go_sem] theorem fn4 : isFn Tryz.prog 4 := ⟨_, Tryz.func4, rfl, by kernel_rfl⟩
@[go_sem] theorem fn5 : isFn Tryz.prog 5 := ⟨_, Tryz.func5, rfl, by kernel_rfl⟩
@[go_sem] theorem fn6 : isFn Tryz.prog 6 := ⟨_, Tryz.func6, rfl, by kernel_rfl⟩
@[go_sem] theorem fn7 : isFn Tryz.prog 7 := ⟨_, Tryz.func7, rfl, by kernel_rfl⟩
@[go_sem] theorem fn8 : isFn Tryz.prog 8 := ⟨_, Tryz.func8, rfl, by kernel_rfl⟩
@[go_sem] theorem fn9 : isFn Tryz.prog 9 := ⟨_, Tryz.func9, rfl, by kernel_rfl⟩
@[go_sem] theorem fn10 : isFn Tryz.prog 10 := ⟨_, Tryz.func10, rfl, by kernel_rfl⟩
@[go_sem] theorem fn11 : isFn Tryz.prog 11 := ⟨_, Tryz.func11, rfl, by kernel_rfl⟩
@[go_sem] theorem fn12 : isFn Tryz.prog 12 := ⟨_, Tryz.func12, rfl, by kernel_rfl⟩
@[go_sem] theorem fn13 : isFn Tryz.prog 13 := ⟨_, Tryz.func13, rfl, by kernel_rfl⟩
@[go_sem] theorem fn14 : isFn Tryz.prog 14 := ⟨_, Tryz.func14, rfl, by kernel_rfl⟩
@[go_sem] theorem fn15 : isFn Tryz.prog 15 := ⟨_, Tryz.func15, rfl, by kernel_rfl⟩
@[go_sem] theorem fn16 : isFn Tryz.prog 16 := ⟨_, Tryz.func16, rfl, by kernel_rfl⟩
@[go_sem] theorem fn17 : isFn Tryz.prog 17 := ⟨_, Tryz.func17, rfl, by kernel_rfl⟩
@[go_sem] theorem fn18 : isFn Tryz.prog 18 := ⟨_, Tryz.func18, rfl, by kernel_rfl⟩
@[go_sem] theorem fn19 : isFn Tryz.prog 19 := ⟨_, Tryz.func19, rfl, by kernel_rfl⟩
@[go_sem] theorem fn20 : isFn Tryz.prog 20 := ⟨_, Tryz.func20, rfl, by kernel_rfl⟩
@[go_sem] theorem fn21 : isFn Tryz.prog 21 := ⟨_, Tryz.func21, rfl, by kernel_rfl⟩
@[go_sem] theorem fn22 : isFn Tryz.prog 22 := ⟨_, Tryz.func22, rfl, by kernel_rfl⟩
@[go_sem] theorem fn23 : isFn Tryz.prog 23 := ⟨_, Tryz.func23, rfl, by kernel_rfl⟩
@[go_sem] theorem fn24 : isFn Tryz.prog 24 := ⟨_, Tryz.func24, rfl, by kernel_rfl⟩
@[go_sem] theorem fn25 : isFn Tryz.prog 25 := ⟨_, Tryz.func25, rfl, by kernel_rfl⟩
@[go_sem] theorem fn27 : isFn Tryz.prog 27 := ⟨_, Tryz.func27, rfl, by kernel_rfl⟩
@[go_sem] theorem fn28 : isFn Tryz.prog 28 := ⟨_, Tryz.func28, rfl, by kernel_rfl⟩
@[go_sem] theorem fn29 : isFn Tryz.prog 29 := ⟨_, Tryz.func29, rfl, by kernel_rfl⟩
@[go_sem] theorem fn30 : isFn Tryz.prog 30 := ⟨_, Tryz.func30, rfl, by kernel_rfl⟩
@[go_sem] theorem fn31 : isFn Tryz.prog 31 := ⟨_, Tryz.func31, rfl, by kernel_rfl⟩
@[go_sem] theorem fn32 : isFn Tryz.prog 32 := ⟨_, Tryz.func32, rfl, by kernel_rfl⟩
@[go_sem] theorem fn33 : isFn Tryz.prog 33 := ⟨_, Tryz.func33, rfl, by kernel_rfl⟩
@[go_sem] theorem fn35 : isFn Tryz.prog 35 := ⟨_, Tryz.func35, rfl, by kernel_rfl⟩
@[go_sem] theorem fn36 : isFn Tryz.prog 36 := ⟨_, Tryz.func36, rfl, by kernel_rfl⟩
@[go_sem] theorem fn37 : isFn Tryz.prog 37 := ⟨_, Tryz.func37, rfl, by kernel_rfl⟩
@[go_sem] theorem fn38 : isFn Tryz.prog 38 := ⟨_, Tryz.func38, rfl, by kernel_rfl⟩
@[go_sem] theorem fn39 : isFn Tryz.prog 39 := ⟨_, Tryz.func39, rfl, by kernel_rfl⟩
@[go_sem] theorem fn40 : isFn Tryz.prog 40 := ⟨_, Tryz.func40, rfl, by kernel_rfl⟩
@[go_sem] theorem fn41 : isFn Tryz.prog 41 := ⟨_, Tryz.func41, rfl, by kernel_rfl⟩
@[go_sem] theorem fn42 : isFn Tryz.prog 42 := ⟨_, Tryz.func42, rfl, by kernel_rfl⟩
@[go_sem] theorem fn43 : isFn Tryz.prog 43 := ⟨_, Tryz.func43, rfl, by kernel_rfl⟩
@[go_sem] theorem fn44 : isFn Tryz.prog 44 := ⟨_, Tryz.func44, rfl, by kernel_rfl⟩
@[go_sem] theorem fn45 : isFn Tryz.prog 45 := ⟨_, Tryz.func45, rfl, by kernel_rfl⟩
@[go_sem] theorem fn46 : isFn Tryz.prog 46 := ⟨_, Tryz.func46, rfl, by kernel_rfl⟩
@[go_sem] theorem fn47 : isFn Tryz.prog 47 := ⟨_, Tryz.func47, rfl, by kernel_rfl⟩
@[go_sem] theorem fn48 : isFn Tryz.prog 48 := ⟨_, Tryz.func48, rfl, by kernel_rfl⟩
@[go_sem] theorem fn49 : isFn Tryz.prog 49 := ⟨_, Tryz.func49, rfl, by kernel_rfl⟩
@[go_sem] theorem fn51 : isFn Tryz.prog 51 := ⟨_, Tryz.func51, rfl, by kernel_rfl⟩
@[go_sem] theorem fn54 : isFn Tryz.prog 54 := ⟨_, Tryz.func54, rfl, by kernel_rfl⟩
@[go_sem] theorem fn55 : isFn Tryz.prog 55 := ⟨_, Tryz.func55, rfl, by kernel_rfl⟩
@[go_sem] theorem fn57 : isFn Tryz.prog 57 := ⟨_, Tryz.func57, rfl, by kernel_rfl⟩
@[go_sem] theorem fn58 : isFn Tryz.prog 58 := ⟨_, Tryz.func58, rfl, by kernel_rfl⟩
@[go_sem] theorem fn59 : isFn Tryz.prog 59 := ⟨_, Tryz.func59, rfl, by kernel_rfl⟩
@[go_sem] theorem fn60 : isFn Tryz.prog 60 := ⟨_, Tryz.func60, rfl, by kernel_rfl⟩
@[go_sem] theorem fn61 : isFn Tryz.prog 61 := ⟨_, Tryz.func61, rfl, by kernel_rfl⟩
@[go_sem] theorem fn62 : isFn Tryz.prog 62 := ⟨_, Tryz.func62, rfl, by kernel_rfl⟩
@[go_sem] theorem fn63 : isFn Tryz.prog 63 := ⟨_, Tryz.func63, rfl, by kernel_rfl⟩
@[go_sem] theorem fn64 : isFn Tryz.prog 64 := ⟨_, Tryz.func64, rfl, by kernel_rfl⟩
@[go_sem] theorem fn65 : isFn Tryz.prog 65 := ⟨_, Tryz.func65, rfl, by kernel_rfl⟩
@[go_sem] theorem fn66 : isFn Tryz.prog 66 := ⟨_, Tryz.func66, rfl, by kernel_rfl⟩
@[go_sem] theorem fn67 : isFn Tryz.prog 67 := ⟨_, Tryz.func67, rfl, by kernel_rfl⟩
@[go_sem] theorem fn68 : isFn Tryz.prog 68 := ⟨_, Tryz.func68, rfl, by kernel_rfl⟩
@[go_sem] theorem fn69 : isFn Tryz.prog 69 := ⟨_, Tryz.func69, rfl, by kernel_rfl⟩
@[go_sem] theorem fn70 : isFn Tryz.prog 70 := ⟨_, Tryz.func70, rfl, by kernel_rfl⟩
@[go_sem] theorem fn78 : isFn Tryz.prog 78 := ⟨_, Tryz.func78, rfl, by kernel_rfl⟩
@[go_sem] theorem fn79 : isFn Tryz.prog 79 := ⟨_, Tryz.func79, rfl, by kernel_rfl⟩
@[go_sem] theorem fn80 : isFn Tryz.prog 80 := ⟨_, Tryz.func80, rfl, by kernel_rfl⟩
@[go_sem] theorem fn81 : isFn Tryz.prog 81 := ⟨_, Tryz.func81, rfl, by kernel_rfl⟩
@[go_sem] theorem fn82 : isFn Tryz.prog 82 := ⟨_, Tryz.func82, rfl, by kernel_rfl⟩
@[go_sem] theorem fn83 : isFn Tryz.prog 83 := ⟨_, Tryz.func83, rfl, by kernel_rfl⟩
@[go_sem] theorem fn84 : isFn Tryz.prog 84 := ⟨_, Tryz.func84, rfl, by kernel_rfl⟩
@[go_sem] theorem fn85 : isFn Tryz.prog 85 := ⟨_, Tryz.func85, rfl, by kernel_rfl⟩
@[go_sem] theorem fn86 : isFn Tryz.prog 86 := ⟨_, Tryz.func86, rfl, by kernel_rfl⟩
@[go_sem] theorem fn87 : isFn Tryz.prog 87 := ⟨_, Tryz.func87, rfl, by kernel_rfl⟩
@[go_sem] theorem fn88 : isFn Tryz.prog 88 := ⟨_, Tryz.func88, rfl, by kernel_rfl⟩
@[go_sem] theorem fn89 : isFn Tryz.prog 89 := ⟨_, Tryz.func89, rfl, by kernel_rfl⟩
@[go_sem] theorem fn90 : isFn Tryz.prog 90 := ⟨_, Tryz.func90, rfl, by kernel_rfl⟩
@[go_sem] theorem fn91 : isFn Tryz.prog 91 := ⟨_, Tryz.func91, rfl, by kernel_rfl⟩
@[go_sem] theorem fn105 : isFn Tryz.prog 105 := ⟨_, Tryz.func105, rfl, by kernel_rfl⟩
@[go_sem] theorem fn106 : isFn Tryz.prog 106 := ⟨_, Tryz.func106, rfl, by kernel_rfl⟩
@[go_sem] theorem fn107 : isFn Tryz.prog 107 := ⟨_, Tryz.func107, rfl, by kernel_rfl⟩
@[go_sem] theorem fn108 : isFn Tryz.prog 108 := ⟨_, Tryz.func108, rfl, by kernel_rfl⟩
@[go_sem] theorem fn109 : isFn Tryz.prog 109 := ⟨_, Tryz.func109, rfl, by kernel_rfl⟩
@[go_sem] theorem fn110 : isFn Tryz.prog 110 := ⟨_, Tryz.func110, rfl, by kernel_rfl⟩
@[go_sem] theorem fn111 : isFn Tryz.prog 111 := ⟨_, Tryz.func111, rfl, by kernel_rfl⟩
@[go_sem] theorem fn112 : isFn Tryz.prog 112 := ⟨_, Tryz.func112, rfl, by kernel_rfl⟩
@[go_sem] theorem fn113 : isFn Tryz.prog 113 := ⟨_, Tryz.func113, rfl, by kernel_rfl⟩
@[go_sem] theorem fn114 : isFn Tryz.prog 114 := ⟨_, Tryz.func114, rfl, by kernel_rfl⟩
@[go_sem] theorem fn115 : isFn Tryz.prog 115 := ⟨_, Tryz.func115, rfl, by kernel_rfl⟩
@[go_sem] theorem fn116 : isFn Tryz.prog 116 := ⟨_, Tryz.func116, rfl, by kernel_rfl⟩
@[go_sem] theorem fn117 : isFn Tryz.prog 117 := ⟨_, Tryz.func117, rfl, by kernel_rfl⟩
@[go_sem] theorem fn118 : isFn Tryz.prog 118 := ⟨_, Tryz.func118, rfl, by kernel_rfl⟩
@[go_sem] theorem fn120 : isFn Tryz.prog 120 := ⟨_, Tryz.func120, rfl, by kernel_rfl⟩
@[go_sem] theorem fn121 : isFn Tryz.prog 121 := ⟨_, Tryz.func121, rfl, by kernel_rfl⟩
@[go_sem] theorem fn124 : isFn Tryz.prog 124 := ⟨_, Tryz.func124, rfl, by kernel_rfl⟩
@[go_sem] theorem fn125 : isFn Tryz.prog 125 := ⟨_, Tryz.func125, rfl, by kernel_rfl⟩
@[go_sem] theorem fn126 : isFn Tryz.prog 126 := ⟨_, Tryz.func126, rfl, by kernel_rfl⟩
@[go_sem] theorem fn137 : isFn Tryz.prog 137 := ⟨_, Tryz.func137, rfl, by kernel_rfl⟩
@[go_sem] theorem fn138 : isFn Tryz.prog 138 := ⟨_, Tryz.func138, rfl, by kernel_rfl⟩
@[go_sem] theorem fn139 : isFn Tryz.prog 139 := ⟨_, Tryz.func139, rfl, by kernel_rfl⟩
@[go_sem] theorem fn140 : isFn Tryz.prog 140 := ⟨_, Tryz.func140, rfl, by kernel_rfl⟩
@[go_sem] theorem fn141 : isFn Tryz.prog 141 := ⟨_, Tryz.func141, rfl, by kernel_rfl⟩
@[go_sem] theorem fn142 : isFn Tryz.prog 142 := ⟨_, Tryz.func142, rfl, by kernel_rfl⟩
@[go_sem] theorem fn143 : isFn Tryz.prog 143 := ⟨_, Tryz.func143, rfl, by kernel_rfl⟩
@[go_sem] theorem fn144 : isFn Tryz.prog 144 := ⟨_, Tryz.func144, rfl, by kernel_rfl⟩
@[go_sem] theorem fn145 : isFn Tryz.prog 145 := ⟨_, Tryz.func145, rfl, by kernel_rfl⟩
@[go_sem] theorem fn146 : isFn Tryz.prog 146 := ⟨_, Tryz.func146, rfl, by kernel_rfl⟩
@[go_sem] theorem fn147 : isFn Tryz.prog 147 := ⟨_, Tryz.func147, rfl, by kernel_rfl⟩
@[go_sem] theorem fn148 : isFn Tryz.prog 148 := ⟨_, Tryz.func148, rfl, by kernel_rfl⟩
@[go_sem] theorem fn149 : isFn Tryz.prog 149 := ⟨_, Tryz.func149, rfl, by kernel_rfl⟩
@[go_sem] theorem fn150 : isFn Tryz.prog 150 := ⟨_, Tryz.func150, rfl, by kernel_rfl⟩
@[go_sem] theorem fn151 : isFn Tryz.prog 151 := ⟨_, Tryz.func151, rfl, by kernel_rfl⟩
@[go_sem] theorem fn152 : isFn Tryz.prog 152 := ⟨_, Tryz.func152, rfl, by kernel_rfl⟩
@[go_sem] theorem fn153 : isFn Tryz.prog 153 := ⟨_, Tryz.func153, rfl, by kernel_rfl⟩
@[go_sem] theorem fn154 : isFn Tryz.prog 154 := ⟨_, Tryz.func154, rfl, by kernel_rfl⟩
@[go_sem] theorem fn155 : isFn Tryz.prog 155 := ⟨_, Tryz.func155, rfl, by kernel_rfl⟩
@[go_sem] theorem fn156 : isFn Tryz.prog 156 := ⟨_, Tryz.func156, rfl, by kernel_rfl⟩
@[go_sem] theorem fn157 : isFn Tryz.prog 157 := ⟨_, Tryz.func157, rfl, by kernel_rfl⟩
@[go_sem] theorem fn174 : isFn Tryz.prog 174 := ⟨_, Tryz.func174, rfl, by kernel_rfl⟩
@[go_sem] theorem fn175 : isFn Tryz.prog 175 := ⟨_, Tryz.func175, rfl, by kernel_rfl⟩
@[go_sem] theorem fn176 : isFn Tryz.prog 176 := ⟨_, Tryz.func176, rfl, by kernel_rfl⟩
@[go_sem] theorem fn177 : isFn Tryz.prog 177 := ⟨_, Tryz.func177, rfl, by kernel_rfl⟩
@[go_sem] theorem fn178 : isFn Tryz.prog 178 := ⟨_, Tryz.func178, rfl, by kernel_rfl⟩
@[go_sem] theorem fn179 : isFn Tryz.prog 179 := ⟨_, Tryz.func179, rfl, by kernel_rfl⟩
@[go_sem] theorem fn180 : isFn Tryz.prog 180 := ⟨_, Tryz.func180, rfl, by kernel_rfl⟩
@[go_sem] theorem fn181 : isFn Tryz.prog 181 := ⟨_, Tryz.func181, rfl, by kernel_rfl⟩
@[go_sem] theorem fn182 : isFn Tryz.prog 182 := ⟨_, Tryz.func182, rfl, by kernel_rfl⟩
@[go_sem] theorem fn183 : isFn Tryz.prog 183 := ⟨_, Tryz.func183, rfl, by kernel_rfl⟩
@[go_sem] theorem fn184 : isFn Tryz.prog 184 := ⟨_, Tryz.func184, rfl, by kernel_rfl⟩
@[go_sem] theorem fn185 : isFn Tryz.prog 185 := ⟨_, Tryz.func185, rfl, by kernel_rfl⟩
@[go_sem] theorem fn186 : isFn Tryz.prog 186 := ⟨_, Tryz.func186, rfl, by kernel_rfl⟩
@[go_sem] theorem fn187 : isFn Tryz.prog 187 := ⟨_, Tryz.func187, rfl, by kernel_rfl⟩
@[go_sem] theorem fn188 : isFn Tryz.prog 188 := ⟨_, Tryz.func188, rfl, by kernel_rfl⟩
@[go_sem] theorem fn189 : isFn Tryz.prog 189 := ⟨_, Tryz.func189, rfl, by kernel_rfl⟩
@[go_sem] theorem fn190 : isFn Tryz.prog 190 := ⟨_, Tryz.func190, rfl, by kernel_rfl⟩
@[go_sem] theorem fn191 : isFn Tryz.prog 191 := ⟨_, Tryz.func191, rfl, by kernel_rfl⟩
@[go_sem] theorem fn192 : isFn Tryz.prog 192 := ⟨_, Tryz.func192, rfl, by kernel_rfl⟩
@[go_sem] theorem fn193 : isFn Tryz.prog 193 := ⟨_, Tryz.func193, rfl, by kernel_rfl⟩
@[go_sem] theorem fn194 : isFn Tryz.prog 194 := ⟨_, Tryz.func194, rfl, by kernel_rfl⟩
@[go_sem] theorem fn195 : isFn Tryz.prog 195 := ⟨_, Tryz.func195, rfl, by kernel_rfl⟩
@[go_sem] theorem fn196 : isFn Tryz.prog 196 := ⟨_, Tryz.func196, rfl, by kernel_rfl⟩
@[go_sem] theorem fn213 : isFn Tryz.prog 213 := ⟨_, Tryz.func213, rfl, by kernel_rfl⟩
@[go_sem] theorem fn214 : isFn Tryz.prog 214 := ⟨_, Tryz.func214, rfl, by kernel_rfl⟩
@[go_sem] theorem fn215 : isFn Tryz.prog 215 := ⟨_, Tryz.func215, rfl, by kernel_rfl⟩
@[go_sem] theorem fn216 : isFn Tryz.prog 216 := ⟨_, Tryz.func216, rfl, by kernel_rfl⟩
@[go_sem] theorem fn217 : isFn Tryz.prog 217 := ⟨_, Tryz.func217, rfl, by kernel_rfl⟩
@[go_sem] theorem fn218 : isFn Tryz.prog 218 := ⟨_, Tryz.func218, rfl, by kernel_rfl⟩
@[go_sem] theorem fn219 : isFn Tryz.prog 219 := ⟨_, Tryz.func219, rfl, by kernel_rfl⟩
@[go_sem] theorem fn220 : isFn Tryz.prog 220 := ⟨_, Tryz.func220, rfl, by kernel_rfl⟩
@[go_sem] theorem fn221 : isFn Tryz.prog 221 := ⟨_, Tryz.func221, rfl, by kernel_rfl⟩
@[go_sem] theorem fn222 : isFn Tryz.prog 222 := ⟨_, Tryz.func222, rfl, by kernel_rfl⟩
@[go_sem] theorem fn223 : isFn Tryz.prog 223 := ⟨_, Tryz.func223, rfl, by kernel_rfl⟩
@[go_sem] theorem fn224 : isFn Tryz.prog 224 := ⟨_, Tryz.func224, rfl, by kernel_rfl⟩
@[go_sem] theorem fn225 : isFn Tryz.prog 225 := ⟨_, Tryz.func225, rfl, by kernel_rfl⟩
@[go_sem] theorem fn226 : isFn Tryz.prog 226 := ⟨_, Tryz.func226, rfl, by kernel_rfl⟩
@[go_sem] theorem fn227 : isFn Tryz.prog 227 := ⟨_, Tryz.func227, rfl, by kernel_rfl⟩
@[go_sem] theorem fn228 : isFn Tryz.prog 228 := ⟨_, Tryz.func228, rfl, by kernel_rfl⟩
@[go_sem] theorem fn229 : isFn Tryz.prog 229 := ⟨_, Tryz.func229, rfl, by kernel_rfl⟩
@[go_sem] theorem fn230 : isFn Tryz.prog 230 := ⟨_, Tryz.func230, rfl, by kernel_rfl⟩
@[go_sem] theorem fn231 : isFn Tryz.prog 231 := ⟨_, Tryz.func231, rfl, by kernel_rfl⟩
@[go_sem] theorem fn232 : isFn Tryz.prog 232 := ⟨_, Tryz.func232, rfl, by kernel_rfl⟩
@[go_sem] theorem fn233 : isFn Tryz.prog 233 := ⟨_, Tryz.func233, rfl, by kernel_rfl⟩
@[go_sem] theorem fn241 : isFn Tryz.prog 241 := ⟨_, Tryz.func241, rfl, by kernel_rfl⟩
@[go_sem] theorem fn242 : isFn Tryz.prog 242 := ⟨_, Tryz.func242, rfl, by kernel_rfl⟩
@[go_sem] theorem fn243 : isFn Tryz.prog 243 := ⟨_, Tryz.func243, rfl, by kernel_rfl⟩
@[go_sem] theorem fn244 : isFn Tryz.prog 244 := ⟨_, Tryz.func244, rfl, by kernel_rfl⟩
@[go_sem] theorem fn245 : isFn Tryz.prog 245 := ⟨_, Tryz.func245, rfl, by kernel_rfl⟩
@[go_sem] theorem fn246 : isFn Tryz.prog 246 := ⟨_, Tryz.func246, rfl, by kernel_rfl⟩
@[go_sem] theorem fn248 : isFn Tryz.prog 248 := ⟨_, Tryz.func248, rfl, by kernel_rfl⟩
@[go_sem] theorem fn249 : isFn Tryz.prog 249 := ⟨_, Tryz.func249, rfl, by kernel_rfl⟩
@[go_sem] theorem fn250 : isFn Tryz.prog 250 := ⟨_, Tryz.func250, rfl, by kernel_rfl⟩
@[go_sem] theorem fn251 : isFn Tryz.prog 251 := ⟨_, Tryz.func251, rfl, by kernel_rfl⟩
@[go_sem] theorem fn252 : isFn Tryz.prog 252 := ⟨_, Tryz.func252, rfl, by kernel_rfl⟩
@[go_sem] theorem fn253 : isFn Tryz.prog 253 := ⟨_, Tryz.func253, rfl, by kernel_rfl⟩
set_option linter.unusedVariables false
set_option linter.unusedSimpArgs false
/-! What the rewriting need not go into. -/
@[congr] theorem cg_pops {P : Program} {ops : Array Oper} {K : List PV → Mem → Prop} {rest : List Oper} {t : List PV} {t' : List PV} {m : Mem} {m' : Mem} (h_t : t = t') (h_m : m = m') : pops P ops K rest t m = pops P ops K rest t' m' := by subst h_t h_m; rfl
@[congr] theorem cg_popsD {P : Program} {wd : Nat} {base : Nat} {fl : List Nat} {ops : Array Oper} {KD : List LE → List PV → Mem → Prop} {i : Nat} {rest : List Oper} {g : List LE} {g' : List LE} {t : List PV} {t' : List PV} {m : Mem} {m' : Mem} (h_t : t = t') (h_m : m = m') (h_g : g = g') : popsD P wd base fl ops KD i rest g t m = popsD P wd base fl ops KD i rest g' t' m' := by subst h_t h_m h_g; rfl
@[congr] theorem cg_nxt {P : Program} {ops : Array Oper} {K : List PV → Mem → Prop} {rest : List Oper} {t : List PV} {t' : List PV} {d : Option Tmp} {p : PV} {p' : PV} {m : Mem} {m' : Mem} (h_t : t = t') (h_p : p = p') (h_m : m = m') : nxt P ops K rest t d p m = nxt P ops K rest t' d p' m' := by subst h_t h_p h_m; rfl
@[congr] theorem cg_nxd {P : Program} {wd : Nat} {base : Nat} {fl : List Nat} {ops : Array Oper} {KD : List LE → List PV → Mem → Prop} {i : Nat} {rest : List Oper} {g : List LE} {g' : List LE} {t : List PV} {t' : List PV} {d : Option Tmp} {p : PV} {p' : PV} {m : Mem} {m' : Mem} (h_t : t = t') (h_p : p = p') (h_m : m = m') (h_g : g = g') : nxd P wd base fl ops KD i rest g t d p m = nxd P wd base fl ops KD i rest g' t' d p' m' := by subst h_t h_p h_m h_g; rfl
@[congr] theorem cg_rgo {P : Program} {ops : Array Oper} {K : List PV → Mem → Prop} {rest : List Oper} {d : Option Tmp} {o : Op} {m : Mem} {m' : Mem} {t : List PV} {t' : List PV} (h_m : m = m') (h_t : t = t') : rgo P ops K rest d o m t = rgo P ops K rest d o m' t' := by subst h_m h_t; rfl
@[congr] theorem cg_pgo {P : Program} {ops : Array Oper} {K : List PV → Mem → Prop} {rest : List Oper} {d : Option Tmp} {m : Mem} {m' : Mem} {t : List PV} {t' : List PV} (h_m : m = m') (h_t : t = t') : pgo P ops K rest d m t = pgo P ops K rest d m' t' := by subst h_m h_t; rfl
@[congr] theorem cg_rge {P : Program} {wd : Nat} {base : Nat} {fl : List Nat} {ops : Array Oper} {KD : List LE → List PV → Mem → Prop} {i : Nat} {rest : List Oper} {g : List LE} {oo : Oper} {m : Mem} {m' : Mem} {t : List PV} {t' : List PV} (h_m : m = m') (h_t : t = t') : rge P wd base fl ops KD i rest g oo m t = rge P wd base fl ops KD i rest g oo m' t' := by subst h_m h_t; rfl
@[congr] theorem cg_nxe {P : Program} {wd : Nat} {base : Nat} {fl : List Nat} {ops : Array Oper} {KD : List LE → List PV → Mem → Prop} {i : Nat} {rest : List Oper} {g : List LE} {oo : Oper} {ν ν' : Nat} {t t' : List PV} {ρ : List Nat} {p p' : PV} {m m' : Mem} (h_t : t = t') (h_p : p = p') (h_m : m = m') (h_n : ν = ν') : nxe P wd base fl ops KD i rest g oo ν t ρ p m = nxe P wd base fl ops KD i rest g oo ν' t' ρ p' m' := by subst h_t h_p h_m h_n; rfl
@[congr] theorem cg_popI {P : Program} {wd ν ν' : Nat} {o : Op} {t t' : List PV} {m m' : Mem} {K : List Nat → PV → Mem → Prop} (h_n : ν = ν') (h_t : t = t') (h_m : m = m') : popI P wd ν o t m K = popI P wd ν' o t' m' K := by subst h_n h_t h_m; rfl
@[congr] theorem cg_pIO {P : Program} {wd ν ν' : Nat} {f : FuncId} {ps ps' : List PV} {m m' : Mem} {K : List Nat → PV → Mem → Prop} (h_n : ν = ν') (h_p : ps = ps') (h_m : m = m') : pIO P wd ν f ps m K = pIO P wd ν' f ps' m' K := by subst h_n h_p h_m; rfl
@[congr] theorem cg_rgd {P : Program} {wd : Nat} {base : Nat} {fl : List Nat} {ops : Array Oper} {KD : List LE → List PV → Mem → Prop} {i : Nat} {rest : List Oper} {g : List LE} {oo : Oper} {m : Mem} {m' : Mem} {t : List PV} {t' : List PV} (h_m : m = m') (h_t : t = t') : rgd P wd base fl ops KD i rest g oo m t = rgd P wd base fl ops KD i rest g oo m' t' := by subst h_m h_t; rfl
@[congr] theorem cg_pgd {P : Program} {wd : Nat} {base : Nat} {fl : List Nat} {ops : Array Oper} {KD : List LE → List PV → Mem → Prop} {i : Nat} {rest : List Oper} {g : List LE} {oo : Oper} {m : Mem} {m' : Mem} {t : List PV} {t' : List PV} (h_m : m = m') (h_t : t = t') : pgd P wd base fl ops KD i rest g oo m t = pgd P wd base fl ops KD i rest g oo m' t' := by subst h_m h_t; rfl
@[congr] theorem cg_gate2 {b : Bool} {b' : Bool} {y : List PV → Prop} {n : List PV → Prop} {t : List PV} {t' : List PV} {i : Nat} (h_b : b = b') (h_t : t = t') : gate2 b y n t i = gate2 b' y n t' i := by subst h_b h_t; rfl
@[congr] theorem cg_gdV {p : PV} {p' : PV} {i : Nat} {t : List PV} {t' : List PV} {b : Bool} {y : List PV → Prop} {n : List PV → Prop} (h_p : p = p') (h_t : t = t') : gdV p i t b y n = gdV p' i t' b y n := by subst h_p h_t; rfl
@[congr] theorem cg_gd {d : Option Tmp} {t : List PV} {t' : List PV} {b : Bool} {y : List PV → Prop} {n : List PV → Prop} (h_t : t = t') : gd d t b y n = gd d t' b y n := by subst h_t; rfl
@[congr] theorem cg_pLoad {P : Program} {T : TypeId} {cs : Option (List PV)} {cs' : Option (List PV)} {K : PV → Prop} (h_cs : cs = cs') : pLoad P T cs K = pLoad P T cs' K := by subst h_cs; rfl
@[congr] theorem cg_pBin {P : Program} {op : BinOp} {T : TypeId} {x : PV} {x' : PV} {y : PV} {y' : PV} {K : PV → Prop} (h_x : x = x') (h_y : y = y') : pBin P op T x y K = pBin P op T x' y' K := by subst h_x h_y; rfl
@[congr] theorem cg_pUn {op : UnOp} {x : PV} {x' : PV} {K : PV → Prop} (h_x : x = x') : pUn op x K = pUn op x' K := by subst h_x; rfl
@[congr] theorem cg_pConvM {P : Program} {m : Mem} {m' : Mem} {T : TypeId} {U : TypeId} {x : PV} {x' : PV} {K : PV → Prop} (h_m : m = m') (h_x : x = x') : pConvM P m T U x K = pConvM P m' T U x' K := by subst h_m h_x; rfl
@[congr] theorem cg_pSlice {P : Program} {m : Mem} {m' : Mem} {T : TypeId} {x : PV} {x' : PV} {lo : Option PV} {lo' : Option PV} {hi : Option PV} {hi' : Option PV} {K : PV → Prop} (h_m : m = m') (h_x : x = x') (h_lo : lo = lo') (h_hi : hi = hi') : pSlice P m T x lo hi K = pSlice P m' T x' lo' hi' K := by subst h_m h_x h_lo h_hi; rfl
@[congr] theorem cg_pFieldAddr {P : Program} {m : Mem} {m' : Mem} {T : TypeId} {x : PV} {x' : PV} {i : Nat} {K : PV → Prop} (h_m : m = m') (h_x : x = x') : pFieldAddr P m T x i K = pFieldAddr P m' T x' i K := by subst h_m h_x; rfl
@[congr] theorem cg_pField {P : Program} {T : TypeId} {x : PV} {x' : PV} {i : Nat} {K : PV → Prop} (h_x : x = x') : pField P T x i K = pField P T x' i K := by subst h_x; rfl
@[congr] theorem cg_pIndexAddr {P : Program} {m : Mem} {m' : Mem} {T : TypeId} {x : PV} {x' : PV} {y : PV} {y' : PV} {K : PV → Prop} (h_m : m = m') (h_x : x = x') (h_y : y = y') : pIndexAddr P m T x y K = pIndexAddr P m' T x' y' K := by subst h_m h_x h_y; rfl
@[congr] theorem cg_pIndex {P : Program} {T : TypeId} {x : PV} {x' : PV} {y : PV} {y' : PV} {K : PV → Prop} (h_x : x = x') (h_y : y = y') : pIndex P T x y K = pIndex P T x' y' K := by subst h_x h_y; rfl
@[congr] theorem cg_pExt {i : Nat} {x : PV} {x' : PV} {K : PV → Prop} (h_x : x = x') : pExt i x K = pExt i x' K := by subst h_x; rfl
@[congr] theorem cg_pBuild {P : Program} {T : TypeId} {ps : List (Nat × PV)} {ps' : List (Nat × PV)} {K : PV → Prop} (h_ps : ps = ps') : pBuild P T ps K = pBuild P T ps' K := by subst h_ps; rfl
@[congr] theorem cg_pLen {P : Program} {m : Mem} {m' : Mem} {T : TypeId} {x : PV} {x' : PV} {K : PV → Prop} (h_m : m = m') (h_x : x = x') : pLen P m T x K = pLen P m' T x' K := by subst h_m h_x; rfl
@[congr] theorem cg_pMinMax {b : Bool} {ps : List PV} {ps' : List PV} {K : PV → Prop} (h_ps : ps = ps') : pMinMax b ps K = pMinMax b ps' K := by subst h_ps; rfl
@[congr] theorem cg_optK {ov : Option Value} {ov' : Option Value} {K : PV → Prop} (h_ov : ov = ov') : optK ov K = optK ov' K := by subst h_ov; rfl
@[congr] theorem cg_eqK {P : Program} {op : BinOp} {T : TypeId} {cs : List PV} {cs' : List PV} {ds : List PV} {ds' : List PV} {K : PV → Prop} (h_cs : cs = cs') (h_ds : ds = ds') : eqK P op T cs ds K = eqK P op T cs' ds' K := by subst h_cs h_ds; rfl
@[congr] theorem cg_pNil {m : Mem} {m' : Mem} {x : PV} {x' : PV} {K : PV → Prop} (h_m : m = m') (h_x : x = x') : pNil m x K = pNil m' x' K := by subst h_m h_x; rfl
@[congr] theorem cg_pPick {x : PV} {x' : PV} {y : PV} {y' : PV} {z : PV} {z' : PV} {K : PV → Prop} (h_x : x = x') (h_y : y = y') (h_z : z = z') : pPick x y z K = pPick x' y' z' K := by subst h_x h_y h_z; rfl
@[congr] theorem cg_pCall {P : Program} {io : Bool} {wd : Nat} {nu : Nat} {nu' : Nat} {f : FuncId} {ps : List PV} {ps' : List PV} {m : Mem} {m' : Mem} {KA : PV → Mem → Prop} (h_ps : ps = ps') (h_m : m = m') (h_nu : nu = nu') : pCall P io wd nu f ps m KA = pCall P io wd nu' f ps' m' KA := by subst h_ps h_m h_nu; rfl
@[congr] theorem cg_pBox {nu : Nat} {nu' : Nat} {m : Mem} {m' : Mem} {T : TypeId} {ocs : Option (List PV)} {ocs' : Option (List PV)} {KA : PV → Mem → Prop} (h_nu : nu = nu') (h_m : m = m') (h_ocs : ocs = ocs') : pBox nu m T ocs KA = pBox nu' m' T ocs' KA := by subst h_nu h_m h_ocs; rfl
@[congr] theorem cg_pBuildSlice {P : Program} {nu : Nat} {nu' : Nat} {m : Mem} {m' : Mem} {T : TypeId} {k : Nat} {ps : List (Nat × PV)} {ps' : List (Nat × PV)} {KA : PV → Mem → Prop} (h_nu : nu = nu') (h_m : m = m') (h_ps : ps = ps') : pBuildSlice P nu m T k ps KA = pBuildSlice P nu' m' T k ps' KA := by subst h_nu h_m h_ps; rfl
@[congr] theorem cg_pMake {P : Program} {nu : Nat} {nu' : Nat} {m : Mem} {m' : Mem} {T : TypeId} {x : PV} {x' : PV} {y : PV} {y' : PV} {KA : PV → Mem → Prop} (h_nu : nu = nu') (h_m : m = m') (h_x : x = x') (h_y : y = y') : pMake P nu m T x y KA = pMake P nu' m' T x' y' KA := by subst h_nu h_m h_x h_y; rfl
@[congr] theorem cg_pStore {P : Program} {m : Mem} {m' : Mem} {T : TypeId} {x : PV} {x' : PV} {y : PV} {y' : PV} {KA : PV → Mem → Prop} (h_m : m = m') (h_x : x = x') (h_y : y = y') : pStore P m T x y KA = pStore P m' T x' y' KA := by subst h_m h_x h_y; rfl
@[congr] theorem cg_pAppend {P : Program} {nu : Nat} {nu' : Nat} {m : Mem} {m' : Mem} {T : TypeId} {x : PV} {x' : PV} {y : PV} {y' : PV} {KA : PV → Mem → Prop} (h_nu : nu = nu') (h_m : m = m') (h_x : x = x') (h_y : y = y') : pAppend P nu m T x y KA = pAppend P nu' m' T x' y' KA := by subst h_nu h_m h_x h_y; rfl
@[congr] theorem cg_pDyn {P : Program} {io : Bool} {wd : Nat} {nu : Nat} {nu' : Nat} {p : PV} {p' : PV} {ps : List PV} {ps' : List PV} {m : Mem} {m' : Mem} {KA : PV → Mem → Prop} (h_nu : nu = nu') (h_p : p = p') (h_ps : ps = ps') (h_m : m = m') : pDyn P io wd nu p ps m KA = pDyn P io wd nu' p' ps' m' KA := by subst h_nu h_p h_ps h_m; rfl
@[congr] theorem cg_popA {P : Program} {io : Bool} {wd : Nat} {nu : Nat} {nu' : Nat} {o : Op} {t : List PV} {t' : List PV} {m : Mem} {m' : Mem} {KA : PV → Mem → Prop} (h_nu : nu = nu') (h_t : t = t') (h_m : m = m') : popA P io wd nu o t m KA = popA P io wd nu' o t' m' KA := by subst h_nu h_t h_m; rfl
@[congr] theorem cg_endD {ops2 : List Oper} {K : List PV → Mem → Prop} {g : List LE} {t : List PV} {t' : List PV} {m : Mem} {m' : Mem} (h_t : t = t') (h_m : m = m') : endD ops2 K g t m = endD ops2 K g t' m' := by subst h_t h_m; rfl
@[congr] theorem cg_pwp {P : Program} {n0 : Nat} {code : Code} {Q : Exit → List PV → Mem → Prop} {t : List PV} {t' : List PV} {m : Mem} {m' : Mem} (h_t : t = t') (h_m : m = m') : pwp P n0 code Q t m = pwp P n0 code Q t' m' := by subst h_t h_m; rfl
@[congr] theorem cg_thenP {K : List PV → Mem → Prop} {Q : Exit → List PV → Mem → Prop} {e : Exit} {e' : Exit} {t : List PV} {t' : List PV} {m : Mem} {m' : Mem} (h_t : t = t') (h_m : m = m') (h_e : e = e') : thenP K Q e t m = thenP K Q e' t' m' := by subst h_t h_m h_e; rfl
@[congr] theorem cg_blockP {id : Nat} {Q : Exit → List PV → Mem → Prop} {e : Exit} {e' : Exit} {t : List PV} {t' : List PV} {m : Mem} {m' : Mem} (h_t : t = t') (h_m : m = m') (h_e : e = e') : blockP id Q e t m = blockP id Q e' t' m' := by subst h_t h_m h_e; rfl
class EncOf (α : Type) where
  c : α → List PV
instance : EncOf Int := ⟨cInt⟩
instance : EncOf ByteArray := ⟨cStr⟩
instance : EncOf Bool := ⟨cBool⟩
section
variable {P : Program} {n0 : Nat} {Q : Exit → List PV → Mem → Prop} {t t' : List PV} {m m' : Mem} {K : List PV → Mem → Prop} {KR : PV → Prop} {KA : PV → Mem → Prop}
theorem HexL {σ ο β : Type} {s : σ} {F : σ → Option β} {K : ο → Option β} {r : β} (h : (some (Sum.inl s)).bind (selim F K) = some r) : F s = some r := h
theorem bexR {σ ο β : Type} {o : ο} {F : σ → Option β} {K : ο → Option β} : (some (Sum.inr o)).bind (selim F K) = K o := nrfl rfl
theorem bsr {α β γ δ : Type} {o : β} {F : α → Option γ} {G : β → Option γ} {K : γ → Option δ} : (selim F G (Sum.inr o)).bind K = (G o).bind K := nrfl rfl
theorem bsl {α β γ δ : Type} {o : α} {F : α → Option γ} {G : β → Option γ} {K : γ → Option δ} : (selim F G (Sum.inl o)).bind K = (F o).bind K := nrfl rfl
theorem Hc1k {α β : Type} {G : Prop} {b : Bool} {A B : Option α} {K : α → Option β} {r : β} (h : (cond b A B).bind K = some r) (hb : b = true) (k : A.bind K = some r → G) : G := k (Hc1 h hb)
theorem Hc2k {α β : Type} {G : Prop} {b : Bool} {A B : Option α} {K : α → Option β} {r : β} (h : (cond b A B).bind K = some r) (hb : b = false) (k : B.bind K = some r → G) : G := k (Hc2 h hb)
theorem gateS {c : Bool} {y n : List PV → Prop} {i : Nat} (h : gate2 c y n t i) : gate2 c y n t i := h
theorem idxS {T : TypeId} {es : List (List PV)} {i : PV} (h : pIndexAddr P m T (.sl es) i KR) : pIndexAddr P m T (.sl es) i KR := h
def mkOk (n bytes : Int) : Bool := decide (0 ≤ n ∧ n ≤ 1099511627776 ∧ bytes * n ≤ 140737488355328)
theorem mkS {T : TypeId} {ν : Nat} {x y : PV} (h : pMake P ν m T x y KA) : pMake P ν m T x y KA := h
theorem make_b {T e k ν : Nat} {n b : Int} {zc : List PV} (hok : mkOk n b = true) (hu : P.underlying T = some (.slice e)) (hz : pz P e = some zc) (hb : (P.bytesOf e : Int) = b) (hc : P.cellsOf e = k) (hzl : zc.length = k) (hp : decide (0 < k) = true) (hK : KA (.ms ν) (mput m ν ⟨e, k, List.replicate n.toNat zc⟩)) : pMake P ν m T (vi n) (vi n) KA := by
  subst hb hc
  have hok' := of_decide_eq_true hok
  simp only [pMake, hu, hz]
  exact ⟨trivial, hok'.1, of_decide_eq_true hp, hzl, hok'.2.1, hok'.2.2, hK⟩
theorem cutL_refl {ρ : Nat → Option Nat} : ∀ {cs : List PV}, (∀ q ∈ cs, isC q = true) → cutL ρ m m' cs cs
  | [], _ => trivial
  | c :: cs, h => ⟨.c c (h c List.mem_cons_self), cutL_refl fun q hq => h q (List.mem_cons_of_mem _ hq)⟩
theorem cutE_map {α : Type} {f : α → List PV} [hf : PlainC f] {ρ : Nat → Option Nat} : ∀ {xs : List α}, cutE ρ m m' (xs.map f) (xs.map f)
  | [] => trivial
  | x :: xs => ⟨cutL_refl (hf.h x), cutE_map⟩
theorem cutE_set {α : Type} {f : α → List PV} [hf : PlainC f] {ρ : Nat → Option Nat} {cs : List PV} {x : α} (h : cutL ρ m m' cs (f x)) : ∀ {xs : List α} {n : Nat}, cutE ρ m m' ((xs.map f).set n cs) ((xs.set n x).map f)
  | [], _ => trivial
  | y :: ys, 0 => ⟨h, cutE_map⟩
  | y :: ys, n + 1 => ⟨cutL_refl (hf.h y), cutE_set h⟩
theorem cutE_rep {α : Type} {f : α → List PV} {ρ : Nat → Option Nat} {cs : List PV} {x : α} (h : cutL ρ m m' cs (f x)) : ∀ {n : Nat}, cutE ρ m m' (List.replicate n cs) ((List.replicate n x).map f)
  | 0 => trivial
  | n + 1 => ⟨h, cutE_rep h⟩
theorem cutE_snoc {α : Type} {f : α → List PV} [hf : PlainC f] {ρ : Nat → Option Nat} {cs : List PV} {x : α} (h : cutL ρ m m' cs (f x)) : ∀ {xs : List α}, cutE ρ m m' (xs.map f ++ [cs]) ((xs ++ [x]).map f)
  | [] => ⟨h, trivial⟩
  | y :: ys => ⟨cutL_refl (hf.h y), cutE_snoc h⟩
theorem cutB_set {α : Type} {f : α → List PV} [PlainC f] {ρ : Nat → Option Nat} {T k n : Nat} {cs : List PV} {x : α} {xs : List α} (h : cutL ρ m m' cs (f x)) : cutF ρ m m' ⟨T, k, (xs.map f).set n cs⟩ ⟨T, k, (xs.set n x).map f⟩ := ⟨⟨rfl, rfl, .inr (cutE_set h)⟩, fun _ _ => cutK_n rfl⟩
theorem cutB_rep {α : Type} {f : α → List PV} {ρ : Nat → Option Nat} {T k n : Nat} {cs : List PV} {x : α} (h : cutL ρ m m' cs (f x)) : cutF ρ m m' ⟨T, k, List.replicate n cs⟩ ⟨T, k, (List.replicate n x).map f⟩ := ⟨⟨rfl, rfl, .inr (cutE_rep h)⟩, fun _ _ => cutK_n rfl⟩
theorem cutB_e {ρ : Nat → Option Nat} {T k : Nat} {es es' : List (List PV)} (h : cutE ρ m m' es es') : cutF ρ m m' ⟨T, k, es⟩ ⟨T, k, es'⟩ := ⟨⟨rfl, rfl, .inr h⟩, fun _ _ => cutK_n rfl⟩
theorem cutE_n {ρ : Nat → Option Nat} : cutE ρ m m' [] [] := trivial
theorem cutE_c {ρ : Nat → Option Nat} {cs ds : List PV} {es es' : List (List PV)} (h : cutL ρ m m' cs ds) (h' : cutE ρ m m' es es') : cutE ρ m m' (cs :: es) (ds :: es') := ⟨h, h'⟩
theorem cutB_nil {ρ : Nat → Option Nat} {T : TK} {k : Nat} : cutF ρ m m' ⟨T, k, []⟩ ⟨T, k, []⟩ := ⟨⟨rfl, rfl, .inr trivial⟩, fun _ _ => cutK_same⟩
theorem cutB_two {ρ : Nat → Option Nat} {T k : Nat} {a b c d : List PV} {es es' : List (List PV)} (h : cutE ρ m m' (a :: b :: es) (c :: d :: es')) : cutF ρ m m' ⟨T, k, a :: b :: es⟩ ⟨T, k, c :: d :: es'⟩ := cutB_e h
theorem cutB_snoc {α : Type} {f : α → List PV} [PlainC f] {ρ : Nat → Option Nat} {T k : Nat} {cs : List PV} {x : α} {xs : List α} (h : cutL ρ m m' cs (f x)) : cutF ρ m m' ⟨T, k, xs.map f ++ [cs]⟩ ⟨T, k, (xs ++ [x]).map f⟩ := ⟨⟨rfl, rfl, .inr (cutE_snoc h)⟩, fun _ _ => cutK_n rfl⟩
/-! Keyed rows. -/
def isKd : Option MB → Bool
  | some mb => mb.T.kd.isSome
  | none => false
def oneKd (m : Mem) : Bool := decide ((m.filter isKd).length ≤ 1)
theorem filter_one {α : Type} {p : α → Bool} : ∀ {l : List α} {i j : Nat} {x y : α}, (l.filter p).length ≤ 1 → l[i]? = some x → l[j]? = some y → p x = true → p y = true → i = j
  | [], i, j, x, y, _, h1, _, _, _ => by simp at h1
  | a :: l, i, j, x, y, h, h1, h2, hx, hy => by
    cases hp : p a with
    | false =>
      rw [List.filter_cons_of_neg (by simp [hp])] at h
      cases i with
      | zero => simp at h1; subst h1; rw [hp] at hx; cases hx
      | succ i =>
        cases j with
        | zero => simp at h2; subst h2; rw [hp] at hy; cases hy
        | succ j => exact congrArg Nat.succ (filter_one (l := l) (p := p) h (x := x) (y := y) (by simpa using h1) (by simpa using h2) hx hy)
    | true =>
      rw [List.filter_cons_of_pos hp, List.length_cons] at h
      have h0 : l.filter p = [] := List.length_eq_zero_iff.1 (by omega)
      have no : ∀ {k : Nat} {z : α}, l[k]? = some z → p z = true → False := fun {k z} hk hz => by
        have hm : z ∈ l.filter p := List.mem_filter.2 ⟨List.mem_of_getElem? hk, hz⟩
        rw [h0] at hm
        cases hm
      cases i with
      | succ i => exact (no (by simpa using h1) hx).elim
      | zero =>
        cases j with
        | succ j => exact (no (by simpa using h2) hy).elim
        | zero => rfl
def msAt : Nat → List PV → Option (Nat × Nat)
  | _, [] => none
  | j, .ms l :: cs => if cs.all noMs = true then some (l, j) else none
  | _, .ss .. :: _ => none
  | j, _ :: cs => msAt (j + 1) cs
theorem msAt_get {cs : List PV} {o l j : Nat} (h : msAt o cs = some (l, j)) : ∃ j0, j = o + j0 ∧ cs[j0]? = some (.ms l) ∧ ∀ (i : Nat) (p : PV), cs[i]? = some p → i = j0 ∨ noMs p = true := by
  induction cs generalizing o with
  | nil => cases h
  | cons p cs ih =>
    cases p with
    | ms k =>
      simp only [msAt] at h
      split at h
      · rename_i hc
        simp only [Option.some.injEq, Prod.mk.injEq] at h
        obtain ⟨rfl, rfl⟩ := h
        refine ⟨0, rfl, rfl, fun i p hp => ?_⟩
        cases i with
        | zero => exact .inl rfl
        | succ i => exact .inr (List.all_eq_true.1 hc p (List.mem_of_getElem? (by simpa using hp)))
      · cases h
    | ss a b c => simp [msAt] at h
    | _ =>
      have h' : msAt (o + 1) cs = some (l, j) := h
      obtain ⟨j0, e, h1, h2⟩ := ih h'
      refine ⟨j0 + 1, by omega, by simpa using h1, fun i q hq => ?_⟩
      cases i with
      | zero =>
        right
        simp only [List.getElem?_cons_zero, Option.some.injEq] at hq
        subst hq
        rfl
      | succ i =>
        rcases h2 i q (by simpa using hq) with h | h
        · left; omega
        · exact .inr h
theorem noMs_C {p : PV} (h : isC p = true) : noMs p = true := by
  cases p with
  | ms => cases h
  | ss => cases h
  | _ => rfl
theorem cutK_at {ρ : Nat → Option Nat} {t t' : TypeId} {k k' : Nat} {es es' : List (List PV)} {cs : List PV} {n l j : Nat} (h : cutE ρ m m' es es') (hn : es[n]? = some cs) (ho : ∀ (i : Nat) (ds : List PV), es[i]? = some ds → i ≠ n → ∀ p ∈ ds, noMs p = true)
    (hm : msAt 0 cs = some (l, j)) (h1 : oneKd m = true) {T2 : TK} {k2 : Nat} {es2 : List (List PV)} (hl : look m l = some ⟨T2, k2, es2⟩) (ht : T2.t = t') {k0 : Nat} (hk0 : m[k0]? = some (some ⟨⟨t, some t'⟩, k, es⟩)) : cutK ρ m m' ⟨⟨t, some t'⟩, k, es⟩ ⟨⟨t, some t'⟩, k', es'⟩ := by
  obtain ⟨j0, ej, g1, g2⟩ := msAt_get hm
  rw [Nat.zero_add] at ej
  subst ej
  intro T1 hT i ds j1 e hi hj hne
  have hT' : some t' = some T1 := hT
  obtain ⟨cs1, c1, c2⟩ := (cutE_get h).2 i ds hi
  obtain ⟨p, p1, p2⟩ := (cutL_get c2).2 j1 _ hj
  by_cases hms : noMs p = true
  · have := cutC_sl p2 hms hne
    subst this
    exact .inl ⟨hT, cs1, c1, p1⟩
  · right
    have hin : i = n := by
      rcases Nat.decEq i n with h | h
      · exact absurd (ho i cs1 c1 h p (List.mem_of_getElem? p1)) hms
      · exact h
    subst hin
    rw [hn] at c1
    obtain rfl := Option.some.inj c1
    have hj1 : j1 = j := by
      rcases g2 j1 p p1 with h | h
      · exact h
      · exact absurd h hms
    subst hj1
    rw [g1] at p1
    obtain rfl := Option.some.inj p1
    have huni : ∀ q', AdAt m l q' → q' = (t, i, j1) := by
      rintro q' ⟨l', mb', T', i', cs', j', a1, a2, a3, a4, rfl⟩
      have e : l' = k0 := filter_one (p := isKd) (of_decide_eq_true h1) a1 hk0 (by simp [isKd, a2]) rfl
      subst e
      rw [hk0] at a1
      obtain rfl : (⟨⟨t, some t'⟩, k, es⟩ : MB) = mb' := by simpa using a1
      have hi' : i' = i := by
        rcases Nat.decEq i' i with h | h
        · have := ho i' cs' a3 h _ (List.mem_of_getElem? a4); cases this
        · exact h
      subst hi'
      rw [hn] at a3
      obtain rfl := Option.some.inj a3
      rcases g2 j' _ a4 with h | h
      · rw [h]
      · cases h
    generalize hq : PV.sl e = q at p2
    cases p2 with
    | fms _ mk hm2 hc hd =>
      have := look_iff.1 hl
      rw [hm2] at this
      obtain rfl : mk = ⟨T2, k2, es2⟩ := by simpa using this
      refine ⟨_, l, _, hn, g1, ⟨⟨k0, _, t', i, _, j1, hk0, rfl, hn, g1, rfl⟩, huni⟩, hm2, ?_, ?_, hd⟩
      · rw [← Option.some.inj hT']; exact ht
      · simpa using hq.symm
    | un => cases hq
    | c _ h => cases h
    | ms => cases hq
theorem cutB_snocK {α : Type} {f : α → List PV} [hf : PlainC f] {ρ : Nat → Option Nat} {t t' : TypeId} {k l j k2 : Nat} {T2 : TK} {es2 : List (List PV)} {cs : List PV} {x : α} {xs : List α} (hm : msAt 0 cs = some (l, j)) (h1 : oneKd m = true) (hl : look m l = some ⟨T2, k2, es2⟩) (ht : T2.t = t') (h : cutL ρ m m' cs (f x)) :
    cutF ρ m m' ⟨⟨t, some t'⟩, k, xs.map f ++ [cs]⟩ ⟨⟨t, some t'⟩, k, (xs ++ [x]).map f⟩ := by
  refine ⟨⟨rfl, rfl, .inr (cutE_snoc h)⟩, fun k0 hk0 => cutK_at (n := xs.length) (cs := cs) (cutE_snoc h) (by simp) (fun i ds hi hne p hp => ?_) hm h1 hl ht hk0⟩
  rcases Nat.lt_or_ge i xs.length with hlt | hge
  · rw [List.getElem?_append_left (by simpa using hlt), List.getElem?_map] at hi
    obtain ⟨y, _, rfl⟩ := Option.map_eq_some_iff.1 hi
    exact noMs_C (hf.h y p hp)
  · have := (List.getElem?_eq_some_iff.1 hi).1
    simp at this
    omega
theorem cutB_setK {α : Type} {f : α → List PV} [hf : PlainC f] {ρ : Nat → Option Nat} {t t' : TypeId} {k l j k2 n : Nat} {T2 : TK} {es2 : List (List PV)} {cs : List PV} {x : α} {xs : List α} (hn : n < xs.length) (hm : msAt 0 cs = some (l, j)) (h1 : oneKd m = true) (hl : look m l = some ⟨T2, k2, es2⟩) (ht : T2.t = t') (h : cutL ρ m m' cs (f x)) :
    cutF ρ m m' ⟨⟨t, some t'⟩, k, (xs.map f).set n cs⟩ ⟨⟨t, some t'⟩, k, (xs.set n x).map f⟩ := by
  refine ⟨⟨rfl, rfl, .inr (cutE_set h)⟩, fun k0 hk0 => cutK_at (n := n) (cs := cs) (cutE_set h) (List.getElem?_set_self (by simpa using hn)) (fun i ds hi hne p hp => ?_) hm h1 hl ht hk0⟩
  rw [List.getElem?_set_ne (Ne.symm hne), List.getElem?_map] at hi
  obtain ⟨y, _, rfl⟩ := Option.map_eq_some_iff.1 hi
  exact noMs_C (hf.h y p hp)
theorem cutB_setN {α : Type} {f : α → List PV} [hf : PlainC f] {ρ : Nat → Option Nat} {T : TK} {k n : Nat} {cs : List PV} {x : α} {xs : List α} (hn : cs.all noMs = true) (h : cutL ρ m m' cs (f x)) : cutF ρ m m' ⟨T, k, (xs.map f).set n cs⟩ ⟨T, k, (xs.set n x).map f⟩ := by
  refine ⟨⟨rfl, rfl, .inr (cutE_set h)⟩, fun _ _ => cutK_e (cutE_set h) fun ds hds p hp => ?_⟩
  rcases List.mem_or_eq_of_mem_set hds with hds | rfl
  · obtain ⟨y, _, rfl⟩ := List.mem_map.1 hds
    exact noMs_C (hf.h y p hp)
  · exact List.all_eq_true.1 hn p hp
theorem idxM {T : TypeId} {l : Nat} {i : PV} (h : pIndexAddr P m T (.ms l) i KR) : pIndexAddr P m T (.ms l) i KR := h
theorem idx_msb {α : Type} [EncOf α] {xs : List α} {x : α} {T : TypeId} {T' : TK} {l k' : Nat} {i : Int} {k : IntKind} (h : getI xs i = some x) (hm : look m l = some ⟨T', k', xs.map EncOf.c⟩) (hp : 0 < elemK P T) (hk : k' = elemK P T) (hK : KR (.be l i.toNat 0)) : pIndexAddr P m T (.ms l) (.v (.int k i)) KR := idx_ms h hm hp hk hK
theorem idxmap {α : Type} {f : α → List PV} {xs : List α} {x : α} {i : Int} (h : getI xs i = some x) : (xs.map f)[i.toNat]? = some (f x) := by
  rw [List.getElem?_map, (getI_some h).2]; rfl
theorem slice_msb {α : Type} [EncOf α] {xs : List α} {T T' : TypeId} {r k : Nat} {lo hi : Option PV} {l h : Int} (hok : slOk l h xs.length = true) (hm : look m r = some ⟨T', k, xs.map EncOf.c⟩) (hlo : pBd lo 0 = some l) (hhi : pBd hi xs.length = some h) (hp : 0 < elemK P T) (hk : k = elemK P T) (hK : KR (.ss r l.toNat h.toNat)) : pSlice P m T (.ms r) lo hi KR := by
  obtain ⟨e, hu, he⟩ := elemK_of hp
  rw [he] at hp hk
  have hok' := of_decide_eq_true hok
  simp only [pSlice, hu, look_live, hm, List.length_map, hlo, hhi]
  exact ⟨hok'.1, hok'.2.1, hok'.2.2, hp, hk, hK⟩
theorem src_ss {α : Type} [EncOf α] {xs : List α} {T' : TypeId} {r k : Nat} {a b : Int} (hm : look m r = some ⟨T', k, xs.map EncOf.c⟩) : srcOf m (.ss r a.toNat b.toNat) = some ((subL xs a b).map EncOf.c) := by
  have h := look_iff.1 hm
  simp only [srcOf, h, drop_mp, take_mp, subL]
theorem src_ss' {α : Type} [EncOf α] {xs : List α} {T' : TypeId} {r k A B : Nat} {a b : Int} (hm : look m r = some ⟨T', k, xs.map EncOf.c⟩) (hA : A = a.toNat) (hB : B = b.toNat) : srcOf m (.ss r A B) = some ((subL xs a b).map EncOf.c) := by subst hA hB; exact src_ss hm
theorem gV_ag {cs : List PV} (h : cs.all isC = true) : goodV false (.ag cs) := fun c hc => goodC_of (List.all_eq_true.1 h c hc)
theorem gV_agF {cs : List PV} (h : cs.all isF = true) : goodV true (.ag cs) := fun c hc => goodF_of (List.all_eq_true.1 h c hc)
theorem gV_tu {ps : List PV} (h : ps.all isCA = true) : goodV false (.tu ps) := fun c hc => (isCA_ren (σ := id) (List.all_eq_true.1 h c hc)).2.1
theorem idxB {T : TypeId} {s : ByteArray} {i : PV} (h : pIndex P T (.v (.string s)) i KR) : pIndex P T (.v (.string s)) i KR := h
theorem slcS {T : TypeId} {x : PV} {lo hi : Option PV} (h : pSlice P m T x lo hi KR) : pSlice P m T x lo hi KR := h
theorem appS {T : TypeId} {ν : Nat} {x y : PV} (h : pAppend P ν m T x y KA) : pAppend P ν m T x y KA := h
theorem callS {f : FuncId} {ps : List PV} {io : Bool} {wd ν : Nat} (h : pCall P io wd ν f ps m KA) : pCall P io wd ν f ps m KA := h
theorem optS {o : Option Value} (h : optK o KR) : optK o KR := h
theorem loopS {c : Code} (h : pwp P n0 (.loop c) Q t m) : pwp P n0 (.loop c) Q t m := h
theorem cutS (h : Cuts n0 t m t' m') : Cuts n0 t m t' m' := h
theorem all_nil {α : Type} {p : α → Prop} : (∀ x ∈ ([] : List α), p x) = True := by simp
theorem all_cons {α : Type} {p : α → Prop} {a : α} {as_ : List α} : (∀ x ∈ a :: as_, p x) = (p a ∧ ∀ x ∈ as_, p x) := by simp
theorem rdp_rp {cs : List PV} : rdp m (.rp cs) = some cs := nrfl rfl
theorem app_msb {α : Type} [EncOf α] {xs ys : List α} {T : TypeId} {ν l e k n b : Nat} {x : PV} {zc : List PV} (hok : appOk (xs.length + ys.length) b = true) (hu : P.underlying T = some (.slice e)) (hz : pz P e = some zc) (hb : P.bytesOf e = b) (hc : P.cellsOf e = n) (hl : look m l = some ⟨e, k, xs.map EncOf.c⟩) (hsrc : srcOf m x = some (ys.map EncOf.c))
    (hzl : zc.length = n) (hp : decide (0 < n) = true) (hf : ∀ x : α, (EncOf.c x).length = n) (hk : k = n) (hK : KA (.ms ν) (mput (m.set l none) ν ⟨e, k, (xs ++ ys).map EncOf.c⟩)) : pAppend P ν m T (.ms l) x KA := by
  subst hb hc
  exact app_ms hok hu hz hsrc hl hzl (of_decide_eq_true hp) hf hk hK
theorem app_msK {α : Type} [EncOf α] {xs ys : List α} {cs : List PV} {T : TypeId} {ν l e k n b t' : Nat} {x : PV} {zc : List PV} (hok : appOk (xs.length + ys.length) b = true) (hy : ys.length = 1) (hu : P.underlying T = some (.slice e)) (hz : pz P e = some zc) (hb : P.bytesOf e = b) (hc : P.cellsOf e = n) (hl : look m l = some ⟨⟨e, some t'⟩, k, xs.map EncOf.c⟩) (hsrc : srcOf m x = some [cs])
    (hst : cs.all noSl = true) (hcl : cs.length = n) (hzl : zc.length = n) (hp : decide (0 < n) = true) (hk : k = n) (hK : KA (.ms ν) (mput (m.set l none) ν ⟨⟨e, some t'⟩, k, xs.map EncOf.c ++ [cs]⟩)) : pAppend P ν m T (.ms l) x KA := by
  subst hk
  subst hb
  have hok' := of_decide_eq_true hok
  rw [hy] at hok'
  simp only [pAppend, hu, hz, hsrc, look_live, hl, List.length_map, List.length_cons, List.length_nil, hc]
  refine ⟨hzl, of_decide_eq_true hp, fun ds hds => ?_, trivial, trivial, hok'.1, hok'.2, ?_⟩
  · rw [List.mem_singleton] at hds
    subst hds; exact hcl
  · have e : (⟨e, some t'⟩ : TK).sts [cs] = ⟨e, some t'⟩ := by
      unfold TK.sts TK.stb
      simp only [List.all_cons, List.all_nil, Bool.and_true, hst, if_true]
    rw [e]; exact hK
theorem app_nlb {α : Type} [EncOf α] {ys : List α} {T : TypeId} {ν e n b : Nat} {x : PV} {zc : List PV} (hok : appOk ys.length b = true) (hu : P.underlying T = some (.slice e)) (hz : pz P e = some zc) (hb : P.bytesOf e = b) (hc : P.cellsOf e = n) (hsrc : srcOf m x = some (ys.map EncOf.c))
    (hzl : zc.length = n) (hp : decide (0 < n) = true) (hf : ∀ x : α, (EncOf.c x).length = n) (hK : KA (.ms ν) (mput m ν ⟨e, n, ys.map EncOf.c⟩)) : pAppend P ν m T (.v (.slice none 0 0)) x KA := by
  subst hb hc
  exact app_nl hok hu hz hsrc hzl (of_decide_eq_true hp) hf hK
theorem hm_nil {b : Bool} : ∀ mb, some mb ∈ ([] : Mem) → ∀ cs ∈ mb.es, ∀ p ∈ cs, goodC b p := by intro mb h; cases h
theorem hm_one {α : Type} {f : α → List PV} [PlainC f] {T : TK} {k : Nat} {xs : List α} : ∀ mb, some mb ∈ ([some ⟨T, k, xs.map f⟩] : Mem) → ∀ cs ∈ mb.es, ∀ p ∈ cs, goodC false p := by
  intro mb h
  simp only [List.mem_singleton, Option.some.injEq] at h
  subst h
  exact of_eq_true goodD_map
theorem hm_oneT {α : Type} {f : α → List PV} [FlatC f] {T : TK} {k : Nat} {xs : List α} : ∀ mb, some mb ∈ ([some ⟨T, k, xs.map f⟩] : Mem) → ∀ cs ∈ mb.es, ∀ p ∈ cs, goodC true p := by
  intro mb h
  simp only [List.mem_singleton, Option.some.injEq] at h
  subst h
  exact of_eq_true goodT_map
theorem hm_c {x : Option MB} {m : Mem} {b : Bool} (h1 : ∀ mb, some mb ∈ ([x] : Mem) → ∀ cs ∈ mb.es, ∀ p ∈ cs, goodC b p) (h2 : ∀ mb, some mb ∈ m → ∀ cs ∈ mb.es, ∀ p ∈ cs, goodC b p) : ∀ mb, some mb ∈ (x :: m) → ∀ cs ∈ mb.es, ∀ p ∈ cs, goodC b p := by
  intro mb h
  rcases List.mem_cons.1 h with h | h
  · exact h1 mb (by simp [h])
  · exact h2 mb h
end
theorem st_of {n : Nat} {qs : List PV} : (TK.of n).st qs = TK.of n := nrfl rfl
theorem st_kv {t t' : TypeId} {x : Value} : (TK.mk t (some t')).st [.v x] = TK.mk t (some t') := nrfl rfl
theorem sts_of {n : Nat} {es : List (List PV)} : (TK.of n).sts es = TK.of n := nrfl rfl
attribute [go_sem] st_of st_kv sts_of U_z U_s rdp_rp set_z set_s getD_z getD_s ops_z ops_s ops_a nxt_app atM_app rgo_app pgo_app gate2_tt gate2_ff pops_nil pops_go pops_gd nxd_app popsD_nil popsD_go popsD_gd rgd_app rge_app nxe_app ioAt_nil ioAt_cons popI_call pgd_app gd_some gd_none gdV_tt gdV_ff gdV_ud putP_some putP_none evP_tmp evP_int evP_bool evP_str evP_sl evP_ptr evP_func popA_move popA_assign pPick_t pPick_f popA_pick popA_load popA_nilCheck popA_binOp popA_unOp popA_convert popA_slice popA_fieldAddr popA_field popA_indexAddr popA_index popA_extract popA_build popA_makeFunc popA_len popA_min popA_max popA_alloc popA_box popA_buildSlice popA_makeSlice popA_store popA_append popA_call popA_dyn optK_some rdp_be look_z look_s mput_z mput_s mput_n0 mput_ns mset_z mset_s setR_z setR_e setR_s rapp_z rapp_s sig_n sig_z sig_s renEs_map renEs_nil renEs_cons rowQ_map live_look drop_mp take_mp pBin binV pUn pFieldAddr pField pExt pLen pMinMax pLoad aggd pBox pc pStore pNil thenP_normal blockP_normal thenP_exit thenP_ret blockP_exit blockP_ret Option.bind_some List.length_map if_true if_false Bool.false_eq_true List.map_cons List.map_nil List.toList_toArray beq_self_eq_true ite_self Int.toNat_natCast true_and and_true List.length_nil List.nil_append List.append_nil Nat.zero_add List.drop_zero List.drop_succ_cons List.take_zero List.take_succ_cons List.length_cons List.cons_append Option.map_some List.replicate_zero Bool.not_true Bool.not_false renV renA renC ren1 putNew renMB pPick pConv pConvM pBd Option.map_none pBuild fillP pBuildSlice chunk zflat all_cons all_nil Nat.zero_lt_succ Nat.lt_add_one and_self
instance : PlainC cInt := ⟨fun x q h => by simp only [cInt, List.mem_singleton] at h; subst h; rfl⟩
instance : FlatC cInt := ⟨fun x q h => by simp only [cInt, List.mem_singleton] at h; subst h; rfl⟩
instance : PlainC cStr := ⟨fun x q h => by simp only [cStr, List.mem_singleton] at h; subst h; rfl⟩
instance : FlatC cStr := ⟨fun x q h => by simp only [cStr, List.mem_singleton] at h; subst h; rfl⟩
instance : PlainC cBool := ⟨fun x q h => by simp only [cBool, List.mem_singleton] at h; subst h; rfl⟩
instance : FlatC cBool := ⟨fun x q h => by simp only [cBool, List.mem_singleton] at h; subst h; rfl⟩
structure YB8 where
  v : Int
deriving DecidableEq
def cB8 (x : YB8) : List PV := [v8 x.v]
instance : EncOf YB8 := ⟨cB8⟩
instance : PlainC cB8 := ⟨fun x q h => by simp only [cB8, List.mem_singleton] at h; subst h; rfl⟩
instance : FlatC cB8 := ⟨fun x q h => by simp only [cB8, List.mem_singleton] at h; subst h; rfl⟩
structure Yl1Cur where
  b : List YB8
  i : Int
  h : Int
deriving DecidableEq
def cl1Cur (x : Yl1Cur) : List PV := [.sl (x.b.map cB8), vi x.i, vi x.h]
instance : EncOf Yl1Cur := ⟨cl1Cur⟩
instance : PlainC cl1Cur := ⟨fun x q h => by simp only [cl1Cur, List.mem_cons, List.not_mem_nil, or_false] at h; (repeat' (first | (rcases h with rfl | h; rfl) | (subst h; rfl)))⟩
instance : EncOf YLabel := ⟨cLabel⟩
instance : PlainC cLabel := ⟨fun x q h => by simp only [cLabel, List.mem_cons, List.not_mem_nil, or_false] at h; (repeat' (first | (rcases h with rfl | h; rfl) | (subst h; rfl)))⟩
instance : FlatC cLabel := ⟨fun x q h => by simp only [cLabel, List.mem_cons, List.not_mem_nil, or_false] at h; (repeat' (first | (rcases h with rfl | h; rfl) | (subst h; rfl)))⟩
instance : EncOf YParcel := ⟨cParcel⟩
instance : PlainC cParcel := ⟨fun x q h => by simp only [cParcel, List.mem_cons, List.not_mem_nil, or_false] at h; (repeat' (first | (rcases h with rfl | h; rfl) | (subst h; rfl)))⟩
instance : EncOf YZone := ⟨cZone⟩
instance : PlainC cZone := ⟨fun x q h => by simp only [cZone, List.mem_cons, List.not_mem_nil, or_false] at h; (repeat' (first | (rcases h with rfl | h; rfl) | (subst h; rfl)))⟩
instance : FlatC cZone := ⟨fun x q h => by simp only [cZone, List.mem_cons, List.not_mem_nil, or_false] at h; (repeat' (first | (rcases h with rfl | h; rfl) | (subst h; rfl)))⟩
instance : EncOf YRate := ⟨cRate⟩
instance : PlainC cRate := ⟨fun x q h => by simp only [cRate, List.mem_cons, List.not_mem_nil, or_false] at h; (repeat' (first | (rcases h with rfl | h; rfl) | (subst h; rfl)))⟩
instance : FlatC cRate := ⟨fun x q h => by simp only [cRate, List.mem_cons, List.not_mem_nil, or_false] at h; (repeat' (first | (rcases h with rfl | h; rfl) | (subst h; rfl)))⟩
instance : EncOf YLeg := ⟨cLeg⟩
instance : PlainC cLeg := ⟨fun x q h => by simp only [cLeg, List.mem_cons, List.not_mem_nil, or_false] at h; (repeat' (first | (rcases h with rfl | h; rfl) | (subst h; rfl)))⟩
instance : FlatC cLeg := ⟨fun x q h => by simp only [cLeg, List.mem_cons, List.not_mem_nil, or_false] at h; (repeat' (first | (rcases h with rfl | h; rfl) | (subst h; rfl)))⟩
instance : EncOf YNetwork := ⟨cNetwork⟩
instance : PlainC cNetwork := ⟨fun x q h => by simp only [cNetwork, List.mem_cons, List.not_mem_nil, or_false] at h; (repeat' (first | (rcases h with rfl | h; rfl) | (subst h; rfl)))⟩
instance : EncOf YTrip := ⟨cTrip⟩
instance : PlainC cTrip := ⟨fun x q h => by simp only [cTrip, List.mem_cons, List.not_mem_nil, or_false] at h; (repeat' (first | (rcases h with rfl | h; rfl) | (subst h; rfl)))⟩
instance : FlatC cTrip := ⟨fun x q h => by simp only [cTrip, List.mem_cons, List.not_mem_nil, or_false] at h; (repeat' (first | (rcases h with rfl | h; rfl) | (subst h; rfl)))⟩
instance : EncOf YBooking := ⟨cBooking⟩
instance : PlainC cBooking := ⟨fun x q h => by simp only [cBooking, List.mem_cons, List.not_mem_nil, or_false] at h; (repeat' (first | (rcases h with rfl | h; rfl) | (subst h; rfl)))⟩
instance : FlatC cBooking := ⟨fun x q h => by simp only [cBooking, List.mem_cons, List.not_mem_nil, or_false] at h; (repeat' (first | (rcases h with rfl | h; rfl) | (subst h; rfl)))⟩
instance : EncOf YScan := ⟨cScan⟩
instance : PlainC cScan := ⟨fun x q h => by simp only [cScan, List.mem_cons, List.not_mem_nil, or_false] at h; (repeat' (first | (rcases h with rfl | h; rfl) | (subst h; rfl)))⟩
instance : FlatC cScan := ⟨fun x q h => by simp only [cScan, List.mem_cons, List.not_mem_nil, or_false] at h; (repeat' (first | (rcases h with rfl | h; rfl) | (subst h; rfl)))⟩
instance : EncOf YOrder := ⟨cOrder⟩
instance : PlainC cOrder := ⟨fun x q h => by simp only [cOrder, List.mem_cons, List.not_mem_nil, or_false] at h; (repeat' (first | (rcases h with rfl | h; rfl) | (subst h; rfl)))⟩
instance : EncOf YWorld := ⟨cWorld⟩
instance : PlainC cWorld := ⟨fun x q h => by simp only [cWorld, List.mem_cons, List.not_mem_nil, or_false] at h; (repeat' (first | (rcases h with rfl | h; rfl) | (subst h; rfl)))⟩
instance : EncOf YLine := ⟨cLine⟩
instance : PlainC cLine := ⟨fun x q h => by simp only [cLine, List.mem_cons, List.not_mem_nil, or_false] at h; (repeat' (first | (rcases h with rfl | h; rfl) | (subst h; rfl)))⟩
instance : FlatC cLine := ⟨fun x q h => by simp only [cLine, List.mem_cons, List.not_mem_nil, or_false] at h; (repeat' (first | (rcases h with rfl | h; rfl) | (subst h; rfl)))⟩
instance : EncOf YAct := ⟨cAct⟩
instance : PlainC cAct := ⟨fun x q h => by simp only [cAct, List.mem_cons, List.not_mem_nil, or_false] at h; (repeat' (first | (rcases h with rfl | h; rfl) | (subst h; rfl)))⟩
instance : EncOf YOffice := ⟨cOffice⟩
instance : PlainC cOffice := ⟨fun x q h => by simp only [cOffice, List.mem_cons, List.not_mem_nil, or_false] at h; (repeat' (first | (rcases h with rfl | h; rfl) | (subst h; rfl)))⟩
instance : EncOf YItem := ⟨cItem⟩
instance : PlainC cItem := ⟨fun x q h => by simp only [cItem, List.mem_cons, List.not_mem_nil, or_false] at h; (repeat' (first | (rcases h with rfl | h; rfl) | (subst h; rfl)))⟩
instance : FlatC cItem := ⟨fun x q h => by simp only [cItem, List.mem_cons, List.not_mem_nil, or_false] at h; (repeat' (first | (rcases h with rfl | h; rfl) | (subst h; rfl)))⟩
instance : EncOf YChute := ⟨cChute⟩
instance : PlainC cChute := ⟨fun x q h => by simp only [cChute, List.mem_cons, List.not_mem_nil, or_false] at h; (repeat' (first | (rcases h with rfl | h; rfl) | (subst h; rfl)))⟩
instance : EncOf YInlet := ⟨cInlet⟩
instance : PlainC cInlet := ⟨fun x q h => by simp only [cInlet, List.mem_cons, List.not_mem_nil, or_false] at h; (repeat' (first | (rcases h with rfl | h; rfl) | (subst h; rfl)))⟩
instance : EncOf YCentre := ⟨cCentre⟩
instance : PlainC cCentre := ⟨fun x q h => by simp only [cCentre, List.mem_cons, List.not_mem_nil, or_false] at h; (repeat' (first | (rcases h with rfl | h; rfl) | (subst h; rfl)))⟩
instance : EncOf YThing := ⟨cThing⟩
instance : PlainC cThing := ⟨fun x q h => by simp only [cThing, List.mem_cons, List.not_mem_nil, or_false] at h; (repeat' (first | (rcases h with rfl | h; rfl) | (subst h; rfl)))⟩
instance : FlatC cThing := ⟨fun x q h => by simp only [cThing, List.mem_cons, List.not_mem_nil, or_false] at h; (repeat' (first | (rcases h with rfl | h; rfl) | (subst h; rfl)))⟩
instance : EncOf YBelief := ⟨cBelief⟩
instance : PlainC cBelief := ⟨fun x q h => by simp only [cBelief, List.mem_cons, List.not_mem_nil, or_false] at h; (repeat' (first | (rcases h with rfl | h; rfl) | (subst h; rfl)))⟩
attribute [go_sem] cInt cStr cBool cB8 cl1Cur cLabel cParcel cZone cRate cLeg cNetwork cTrip cBooking cScan cOrder cWorld cLine cAct cOffice cItem cChute cInlet cCentre cThing cBelief EncOf.c
theorem eqT_Trip {n : Nat} {a b a2 b2 : Int} : eqT Tryz.prog (n + 3) 28 [vi a, vi b] [vi a2, vi b2] = some (decide ((⟨a, b⟩ : YTrip) = (⟨a2, b2⟩ : YTrip))) := by
  simp only [eqT, Tryz.underlying3, Tryz.underlying28, ts28, Program.fieldsOf, go_sem]
  simp [tc28, tc3]
  try rfl
@[go_sem] theorem eqK_Trip {a b a2 b2 : Int} {KR : PV → Prop} : eqK Tryz.prog .eql 28 [vi a, vi b] [vi a2, vi b2] KR = KR (vb (decide ((⟨a, b⟩ : YTrip) = (⟨a2, b2⟩ : YTrip)))) := by unfold eqK; rw [show (10000 : Nat) = 9997 + 3 from rfl, eqT_Trip, Tryz.underlying28]; simp only [te28, true_and]
@[go_sem] theorem neK_Trip {a b a2 b2 : Int} {KR : PV → Prop} : eqK Tryz.prog .neq 28 [vi a, vi b] [vi a2, vi b2] KR = KR (vb (!decide ((⟨a, b⟩ : YTrip) = (⟨a2, b2⟩ : YTrip)))) := by unfold eqK; rw [show (10000 : Nat) = 9997 + 3 from rfl, eqT_Trip, Tryz.underlying28]; simp only [te28, true_and]
theorem eqT_Booking {n : Nat} {a b c d a2 b2 c2 d2 : Int} : eqT Tryz.prog (n + 3) 175 [vi a, vi b, vi c, vi d] [vi a2, vi b2, vi c2, vi d2] = some (decide ((⟨a, ⟨b, c⟩, d⟩ : YBooking) = (⟨a2, ⟨b2, c2⟩, d2⟩ : YBooking))) := by
  simp only [eqT, Tryz.underlying3, Tryz.underlying175, ts175, Tryz.underlying28, ts28, Program.fieldsOf, go_sem]
  simp [tc175, tc28, tc3]
  try rfl
@[go_sem] theorem eqK_Booking {a b c d a2 b2 c2 d2 : Int} {KR : PV → Prop} : eqK Tryz.prog .eql 175 [vi a, vi b, vi c, vi d] [vi a2, vi b2, vi c2, vi d2] KR = KR (vb (decide ((⟨a, ⟨b, c⟩, d⟩ : YBooking) = (⟨a2, ⟨b2, c2⟩, d2⟩ : YBooking)))) := by unfold eqK; rw [show (10000 : Nat) = 9997 + 3 from rfl, eqT_Booking, Tryz.underlying175]; simp only [te175, true_and]
@[go_sem] theorem neK_Booking {a b c d a2 b2 c2 d2 : Int} {KR : PV → Prop} : eqK Tryz.prog .neq 175 [vi a, vi b, vi c, vi d] [vi a2, vi b2, vi c2, vi d2] KR = KR (vb (!decide ((⟨a, ⟨b, c⟩, d⟩ : YBooking) = (⟨a2, ⟨b2, c2⟩, d2⟩ : YBooking)))) := by unfold eqK; rw [show (10000 : Nat) = 9997 + 3 from rfl, eqT_Booking, Tryz.underlying175]; simp only [te175, true_and]
def frz (t : List PV) (m : Mem) : Option Unit := some ()
theorem Cuts.trans {n0 : Nat} {t t1 t2 : List PV} {m m1 m2 : Mem} (h : Cuts n0 t m t1 m1) (k : Cuts n0 t1 m1 t2 m2) : Cuts n0 t m t2 m2 := by
  induction h with
  | one h => exact .two h k
  | two h h' ih => exact .two h (ih k)
theorem pwp_frz {P : Program} {n0 : Nat} {Q : Exit → List PV → Mem → Prop} {t T : List PV} {m M : Mem} {α β : Type} {F : Unit → Option α} {K : α → Option β} {r : β} {i : Nat} {ops : Array Oper} {draw : Bool}
    (H : ((frz T M).bind F).bind K = some r) (hc : Cuts n0 t m T M) (hk : (F ()).bind K = some r → pwp P n0 (.region i ops draw) Q T M) : pwp P n0 (.region i ops draw) Q t m := by
  rcases hk H with h | ⟨t1, m1, h1, h2⟩
  · exact .inr ⟨T, M, hc, h⟩
  · exact .inr ⟨t1, m1, hc.trans h1, h2⟩
def drwL (wd : Nat) (fl : List Nat) : Option Unit := some ()
theorem pwp_drwL {P : Program} {n0 : Nat} {Q : Exit → List PV → Mem → Prop} {t : List PV} {m : Mem} {α β : Type} {wd : Nat} {fl : List Nat} {F : Unit → Option α} {K : α → Option β} {r : β} {id : Nat} {ops : List Oper}
    (H : ((drwL wd fl).bind F).bind K = some r) (hwd : decide (0 < wd) = true) (h1 : P.follows .mixedOrders = true) (hk : (F ()).bind K = some r → popsD P wd m.length fl ops.toArray (endD ops (Q .normal)) 0 ops [] t m) : pwp P n0 (.region id ops.toArray true) Q t m := pwp_drawE hwd h1 (hk H)
theorem cutC_fmso {m m' : Mem} {rs : List (Option Nat)} {α : Type} {f : α → List PV} [PlainC f] {xs : List α} {x : α} {cs : List PV} {k k' n : Nat} {T : TK} (hm : look m k = some ⟨T, k', (xs.map f).set n cs⟩) (hc : f x = cs) (hd : dropped (rho rs) m' k) : CutC (rho rs) m m' (.ms k) (.sl ((xs.set n x).map f)) := by
  subst hc
  refine cutC_fms (f := f) (xs := xs.set n x) (T := T) (k' := k') ?_ hd
  rw [hm, List.map_set]
theorem cutC_fss {m m' : Mem} {rs : List (Option Nat)} {α : Type} {f : α → List PV} [PlainC f] {xs : List α} {a b : Int} {k k' A B : Nat} {T : TK} (hm : look m k = some ⟨T, k', xs.map f⟩) (hA : A = a.toNat) (hB : B = b.toNat) (hd : dropped (rho rs) m' k) : CutC (rho rs) m m' (.ss k A B) (.sl ((subL xs a b).map f)) := by
  subst hA hB
  have := CutC.fss (ρ := rho rs) (m := m) (m' := m') k a.toNat b.toNat ⟨T, k', xs.map f⟩ (look_iff.1 hm) rowC_map hd
  simpa only [drop_mp, take_mp, subL] using this
def rgI {α : Type} (xs : List α) (i : Int) : Option α := getI xs i
theorem rgH {α β γ : Type} {xs : List α} {i : Int} {F : α → Option β} {K : β → Option γ} {r : γ} (H : ((rgI xs i).bind F).bind K = some r) : ∃ x, getI xs i = some x ∧ (F x).bind K = some r := Hcall H
theorem idxset {α : Type} {f : α → List PV} {xs : List α} {x : α} {i : Int} {cs : List PV} (h : getI xs i = some x) : ((xs.map f).set i.toNat cs)[i.toNat]? = some cs := by
  rw [List.getElem?_set_self]
  have := (List.getElem?_eq_some_iff.1 (getI_some h).2).1
  simpa using this
theorem idx_msov {P : Program} {m : Mem} {KR : PV → Prop} {α : Type} [EncOf α] {xs : List α} {x : α} {T : TypeId} {T' : TK} {l k' n : Nat} {cs : List PV} {i : Int} {k : IntKind} (h : getI xs i = some x) (hm : look m l = some ⟨T', k', (xs.map EncOf.c).set n cs⟩) (hp : 0 < elemK P T) (hk : k' = elemK P T) (hK : KR (.be l i.toNat 0)) : pIndexAddr P m T (.ms l) (.v (.int k i)) KR := by
  obtain ⟨h1, h2, h3⟩ := getI_lt h
  obtain ⟨e, hu, he⟩ := elemK_of hp
  rw [he] at hk
  simp only [pIndexAddr, hu, look_live, hm, List.length_map, List.length_set]
  exact ⟨h1, h2, hk, hK⟩
attribute [go_sem] List.length_set List.set_set
def frzL {α : Type} (x : α) (t : α → List PV) (m : α → Mem) : Option α := some x
theorem pwp_frzL {P : Program} {n0 : Nat} {Q : Exit → List PV → Mem → Prop} {t : List PV} {m : Mem} {ξ α β : Type} {x : ξ} {T : ξ → List PV} {M : ξ → Mem} {F : ξ → Option α} {K : α → Option β} {r : β} {i : Nat} {ops : Array Oper} {draw : Bool}
    (H : ((frzL x T M).bind F).bind K = some r) (hc : Cuts n0 t m (T x) (M x)) (hk : ∀ z, (F z).bind K = some r → pwp P n0 (.region i ops draw) Q (T z) (M z)) : pwp P n0 (.region i ops draw) Q t m := by
  rcases hk x H with h | ⟨t1, m1, h1, h2⟩
  · exact .inr ⟨T x, M x, hc, h⟩
  · exact .inr ⟨t1, m1, hc.trans h1, h2⟩
def rhoM (ρ : List Nat) : Option Unit := some ()
theorem call_io {R α β : Type} {P : Program} {ρ : List Nat} {A : Option R} [C : CT P A] {F : Unit → Option α} {G : R → Option α} {K : α → Option β} {r : β} {f : FuncId} {ps : List PV} {io : Bool} {wd ν : Nat} {m : Mem} {KA : PV → Mem → Prop}
    (H : ((rhoM ρ).bind F).bind K = some r) (hF : F () = A.bind G) (hf : C.f = f) (hio : io = true) (hps : ps = C.args.map (renA (sig ρ ν))) (hq : ∀ q ∈ C.args, goodA false q ∧ lowA C.m0.length q = true) (hn : ρ.Nodup) (hin : inRows (sig ρ ν) m C.m0.length ρ C.m0)
    (hlen : ∀ y, C.m0.length ≤ (C.mem y).length ∧ (C.mem y).length - C.m0.length ≤ wd) (hm : ∀ y, ∀ mb, some mb ∈ C.mem y → ∀ cs ∈ mb.es, ∀ p ∈ cs, goodC false p) (hg : ∀ y, goodV false (C.res y))
    (hk : ∀ y, A = some y → (G y).bind K = some r → KA (renV (sig ρ ν) (C.res y)) (putNew (sig ρ ν) ν ((C.mem y).drop ρ.length) (putIn (sig ρ ν) ρ (C.mem y) m))) : pCall P io wd ν f ps m KA := by
  have H' : (F ()).bind K = some r := H
  rw [hF] at H'
  obtain ⟨y, hy, H2⟩ := Hcall H'
  subst hf
  exact .inr ⟨ρ, C.m0, C.args, C.res y, C.mem y, .inl hio, C.ok hy, (hlen y).1, (hlen y).2, hps, hq, hn, hin, hm y, hg y, hk y hy H2⟩
theorem call_ioD {R α β : Type} {P : Program} {ρ : List Nat} {A : Option R} [C : CT P A] {F : Unit → Option α} {G : R → Option α} {K : α → Option β} {r : β} {f : FuncId} {ps : List PV} {wd ν : Nat} {m : Mem} {KA : List Nat → PV → Mem → Prop}
    (H : ((rhoM ρ).bind F).bind K = some r) (hF : F () = A.bind G) (hf : C.f = f) (hps : ps = C.args.map (renA (sig ρ ν))) (hq : ∀ q ∈ C.args, goodA false q ∧ lowA C.m0.length q = true) (hn : ρ.Nodup) (hin : inRows (sig ρ ν) m C.m0.length ρ C.m0)
    (hlen : ∀ y, C.m0.length ≤ (C.mem y).length ∧ (C.mem y).length - C.m0.length ≤ wd) (hm : ∀ y, ∀ mb, some mb ∈ C.mem y → ∀ cs ∈ mb.es, ∀ p ∈ cs, goodC false p) (hg : ∀ y, goodV false (C.res y))
    (hk : ∀ y, A = some y → (G y).bind K = some r → KA ρ (renV (sig ρ ν) (C.res y)) (putNew (sig ρ ν) ν ((C.mem y).drop ρ.length) (putIn (sig ρ ν) ρ (C.mem y) m))) : pIO P wd ν f ps m KA := by
  have H' : (F ()).bind K = some r := H
  rw [hF] at H'
  obtain ⟨y, hy, H2⟩ := Hcall H'
  subst hf
  exact ⟨ρ, C.m0, C.args, C.res y, C.mem y, C.ok hy, (hlen y).1, (hlen y).2, hps, hq, hn, hin, hm y, hg y, hk y hy H2⟩
def IsRho : Prop := True
theorem rhoH {α β : Type} {ρ : List Nat} {F : Unit → Option α} {K : α → Option β} {r : β} (H : ((rhoM ρ).bind F).bind K = some r) : IsRho := trivial
theorem rhoS {P : Program} {f : FuncId} {ps : List PV} {io : Bool} {wd ν : Nat} {m : Mem} {KA : PV → Mem → Prop} (h : IsRho) (hk : pCall P io wd ν f ps m KA) : pCall P io wd ν f ps m KA := hk
theorem rhoSD {P : Program} {f : FuncId} {ps : List PV} {wd ν : Nat} {m : Mem} {KA : List Nat → PV → Mem → Prop} (h : IsRho) (hk : pIO P wd ν f ps m KA) : pIO P wd ν f ps m KA := hk
theorem inRows_nil {σ : Nat → Nat} {m : Mem} {n : Nat} : inRows σ m n [] [] := trivial
theorem lowC_isC {n : Nat} {p : PV} (h : isC p = true) : lowC n p = true := by
  cases p with
  | fn f cs =>
    simp only [isC, List.all_eq_true] at h
    simp only [lowC, List.all_eq_true]
    intro c hc
    have := h c hc
    cases c <;> simp_all [isC1, low1]
  | _ => simp_all [isC, isC1, lowC, low1]
theorem inRows_map {α : Type} {f : α → List PV} [hf : PlainC f] {σ : Nat → Nat} {m : Mem} {T : TK} {n l k : Nat} {xs : List α} {ρ : List Nat} {m0 : Mem} (hl : look m l = some ⟨T, k, xs.map f⟩) (h : inRows σ m n ρ m0) : inRows σ m n (l :: ρ) (some ⟨T, k, xs.map f⟩ :: m0) := by
  refine ⟨?_, fun cs hcs p hp => ?_, h⟩
  · rw [look_iff.1 hl]
    simp only [renMB, renEs_map]
  · obtain ⟨x, _, rfl⟩ := List.mem_map.1 hcs
    exact ⟨goodC_of (hf.h x p hp), lowC_isC (hf.h x p hp)⟩
theorem inRows_one {σ : Nat → Nat} {m : Mem} {T : TK} {n l k : Nat} {cs cs' : List PV} {ρ : List Nat} {m0 : Mem} (hl : look m l = some ⟨T, k, [cs']⟩) (hc : cs' = cs.map (renC σ)) (hg : ∀ p ∈ cs, goodC false p ∧ lowC n p = true) (h : inRows σ m n ρ m0) : inRows σ m n (l :: ρ) (some ⟨T, k, [cs]⟩ :: m0) := by
  subst hc
  refine ⟨look_iff.1 hl, fun ds hds p hp => ?_, h⟩
  obtain rfl : ds = cs := by simpa using hds
  exact hg p hp
@[irreducible] def jn {ο α : Type} (i j : Nat) (J : Option (ο ⊕ α)) (T : ο → List PV) (M : ο → Mem) : Option (ο ⊕ α) := J
def hdC : Code → Bool
  | .region _ _ _ => true
  | .loop _ => true
  | .seq a _ => hdC a
  | .block _ c => hdC c
  | _ => false
def idC : Code → Nat
  | .region i _ _ => i
  | .loop c => idC c
  | .seq a _ => idC a
  | .block _ c => idC c
  | _ => 0
theorem pwp_cutC {P : Program} {n0 : Nat} : ∀ (c : Code), hdC c = true → ∀ {Q : Exit → List PV → Mem → Prop} {t T : List PV} {m M : Mem}, Cuts n0 t m T M → pwp P n0 c Q T M → pwp P n0 c Q t m
  | .region i ops draw, _, Q, t, T, m, M, hc, h => by
    rcases h with h | ⟨t1, m1, h1, h2⟩
    · exact .inr ⟨T, M, hc, h⟩
    · exact .inr ⟨t1, m1, hc.trans h1, h2⟩
  | .loop c, _, Q, t, T, m, M, hc, h => by
    obtain ⟨I, n, t0, m0, h1, h2⟩ := h
    exact ⟨I, n, t0, m0, hc.trans h1, h2⟩
  | .seq a b, hd, Q, t, T, m, M, hc, h => pwp_cutC a hd hc h
  | .block i c, hd, Q, t, T, m, M, hc, h => pwp_cutC c hd hc h
theorem pwp_jn {P : Program} {n0 : Nat} {Q : Exit → List PV → Mem → Prop} {t : List PV} {m : Mem} {a b : Code} {ο α β γ : Type} {J : Option (ο ⊕ α)} {T : ο → List PV} {M : ο → Mem} {G : ο → Option β} {F : α → Option β} {K : β → Option γ} {r : γ}
    {i j : Nat} (H : ((jn i j J T M).bind (selim G F)).bind K = some r) (hd : hdC b = true) (hi : (idC a == i && idC b == j) = true)
    (h1 : ∀ K' : List PV → Mem → Prop, (∀ o t' m', (G o).bind K = some r → Cuts n0 t' m' (T o) (M o) → K' t' m') → J.bind (selim (fun o => (G o).bind K) (fun v => (F v).bind K)) = some r → pwp P n0 a (thenP K' Q) t m)
    (h2 : ∀ o, (G o).bind K = some r → pwp P n0 b Q (T o) (M o)) : pwp P n0 (.seq a b) Q t m := by
  unfold jn at H
  refine h1 (fun t m => pwp P n0 b Q t m) (fun o t' m' h hc => pwp_cutC b hd hc (h2 o h)) ?_
  cases J with
  | none => cases H
  | some x => cases x <;> exact H
theorem jnX {ο α β : Type} {n0 : Nat} {s : ο} {F : ο → Option β} {K : α → Option β} {r : β} {Kp : List PV → Mem → Prop} {T : ο → List PV} {M : ο → Mem} {t : List PV} {m : Mem} (H : (some (Sum.inl s)).bind (selim F K) = some r) (hL : ∀ o t' m', F o = some r → Cuts n0 t' m' (T o) (M o) → Kp t' m') (hc : Cuts n0 t m (T s) (M s)) : Kp t m := hL s t m H hc
def IsJn : Prop := True
theorem jnH {ο α β γ : Type} {i j : Nat} {J : Option (ο ⊕ α)} {T : ο → List PV} {M : ο → Mem} {G : (ο ⊕ α) → Option β} {K : β → Option γ} {r : γ} (H : ((jn i j J T M).bind G).bind K = some r) : IsJn := trivial
theorem jnS {P : Program} {n0 : Nat} {Q : Exit → List PV → Mem → Prop} {t : List PV} {m : Mem} {a b : Code} (h : IsJn) (hk : pwp P n0 (.seq a b) Q t m) : pwp P n0 (.seq a b) Q t m := hk
theorem thenP_thenP {K K2 : List PV → Mem → Prop} {Q : Exit → List PV → Mem → Prop} : thenP K (thenP K2 Q) = thenP K Q := by
  funext e t m
  cases e <;> rfl
theorem pwp_assoc {P : Program} {n0 : Nat} {Q : Exit → List PV → Mem → Prop} {t : List PV} {m : Mem} {a b c : Code} (h : pwp P n0 (.seq (.seq a b) c) Q t m) : pwp P n0 (.seq a (.seq b c)) Q t m := by
  have e : pwp P n0 (.seq (.seq a b) c) Q t m = pwp P n0 a (thenP (fun t m => pwp P n0 b (thenP (fun t m => pwp P n0 c Q t m) Q) t m) (thenP (fun t m => pwp P n0 c Q t m) Q)) t m := by simp only [pwp]
  rw [e, thenP_thenP] at h
  simp only [pwp]
  exact h
theorem pwp_jn2 {P : Program} {n0 : Nat} {Q : Exit → List PV → Mem → Prop} {t : List PV} {m : Mem} {a b c : Code} {ο α β γ : Type} {J : Option (ο ⊕ α)} {T : ο → List PV} {M : ο → Mem} {G : ο → Option β} {F : α → Option β} {K : β → Option γ} {r : γ}
    {i j : Nat} (H : ((jn i j J T M).bind (selim G F)).bind K = some r) (hd : hdC c = true) (hi : (idC a == i && idC c == j) = true)
    (h1 : ∀ K' : List PV → Mem → Prop, (∀ o t' m', (G o).bind K = some r → Cuts n0 t' m' (T o) (M o) → K' t' m') → J.bind (selim (fun o => (G o).bind K) (fun v => (F v).bind K)) = some r → pwp P n0 (.seq a b) (thenP K' Q) t m)
    (h2 : ∀ o, (G o).bind K = some r → pwp P n0 c Q (T o) (M o)) : pwp P n0 (.seq a (.seq b c)) Q t m := pwp_assoc (pwp_jn H hd hi h1 h2)
inductive SubC : PV → PV → Prop
  | r (p : PV) : SubC p p
  | nil (c : Nat) : SubC (.v (.slice none 0 c)) (.sl [])
  | un (p : PV) : SubC p .un
inductive SubL : List PV → List PV → Prop
  | n : SubL [] []
  | c {p q : PV} {ps qs : List PV} (h : SubC p q) (k : SubL ps qs) : SubL (p :: ps) (q :: qs)
inductive SubV : PV → PV → Prop
  | c {p q : PV} (h : SubC p q) : SubV p q
  | ag {cs ds : List PV} (h : SubL cs ds) : SubV (.ag cs) (.ag ds)
inductive SubA : List PV → List PV → Prop
  | n : SubA [] []
  | c {p q : PV} {ps qs : List PV} (h : SubV p q) (k : SubA ps qs) : SubA (p :: ps) (q :: qs)
theorem SubC.rep {w : World} {E : Env} {p q : PV} {x : Value} (h : SubC p q) (hr : Rep w E p x) : Rep w E q x := by
  cases h with
  | r => exact hr
  | nil c =>
    cases hr with
    | c h => cases h with
      | v _ _ => exact .c (.nil none c)
  | un => exact .c (.un x)
theorem SubL.len {cs ds : List PV} (h : SubL cs ds) : cs.length = ds.length := by
  induction h with
  | n => rfl
  | c _ _ ih => simp [ih]
theorem SubL.get {cs ds : List PV} (h : SubL cs ds) : ∀ (j : Nat) (q : PV), ds[j]? = some q → ∃ p, cs[j]? = some p ∧ SubC p q := by
  induction h with
  | n => intro j q hq; simp at hq
  | c h k ih =>
    intro j q hq
    cases j with
    | zero => simp at hq; subst hq; exact ⟨_, by simp, h⟩
    | succ j => simpa using ih j q (by simpa using hq)
theorem SubV.rep {w : World} {E : Env} {p q : PV} {x : Value} (h : SubV p q) (hr : Rep w E p x) : Rep w E q x := by
  cases h with
  | c h => exact h.rep hr
  | ag h =>
    obtain ⟨vs, rfl, hl, h1, hc⟩ := Rep.ag_inv hr
    exact .ag _ vs (by rw [hl, h.len]) h1 fun j p y hp hy => by
      obtain ⟨p', hp', hs⟩ := h.get j p hp
      exact hs.rep (hc j p' y hp' hy)
theorem SubA.len {cs ds : List PV} (h : SubA cs ds) : cs.length = ds.length := by
  induction h with
  | n => rfl
  | c _ _ ih => simp [ih]
theorem SubA.get {cs ds : List PV} (h : SubA cs ds) : ∀ (j : Nat) (q : PV), ds[j]? = some q → ∃ p, cs[j]? = some p ∧ SubV p q := by
  induction h with
  | n => intro j q hq; simp at hq
  | c h k ih =>
    intro j q hq
    cases j with
    | zero => simp at hq; subst hq; exact ⟨_, by simp, h⟩
    | succ j => simpa using ih j q (by simpa using hq)
theorem CallM.weak {P : Program} {f : FuncId} {ps qs : List PV} {m0 : Mem} {r : PV} {m1 : Mem} (h : CallM P f qs m0 r m1) (hs : SubA ps qs) : CallM P f ps m0 r m1 := by
  intro S β w vs ω hok hl ha
  refine h S β w vs ω hok (by rw [hl, hs.len]) fun i q hq => ?_
  obtain ⟨p, hp, hv⟩ := hs.get i q hq
  obtain ⟨x, hx, hr⟩ := ha i p hp
  exact ⟨x, hx, hv.rep hr⟩
def isCM : PV → Bool
  | .ms _ => true
  | p => isC p
def isCAM : PV → Bool
  | .ag cs => cs.all isCM
  | .tu _ => false
  | p => isCM p
theorem goodM_of {p : PV} (h : isCM p = true) : goodC false p := by
  cases p with
  | ms l => simp [goodC]
  | _ => exact goodC_of h
theorem gV_agM {cs : List PV} (h : cs.all isCM = true) : goodV false (.ag cs) := fun c hc => goodM_of (List.all_eq_true.1 h c hc)
theorem gV_tuM {ps : List PV} (h : ps.all isCAM = true) : goodV false (.tu ps) := by
  intro c hc
  have := List.all_eq_true.1 h c hc
  cases c with
  | ag cs => exact fun d hd => goodM_of (List.all_eq_true.1 this d hd)
  | tu vs => simp [isCAM] at this
  | fn f cs => exact goodC_of (c := .fn f cs) this
  | _ => simp [goodA, goodC]
theorem cutC_nilsl0 {m m' : Mem} {ρ : Nat → Option Nat} {c : Nat} : CutC ρ m m' (.v (.slice none 0 c)) (.sl []) := .nilsl c
theorem rowsOk_new0 {m m' : Mem} {rs rr : List (Option Nat)} {T : TK} {k : Nat} {mm : Mem} (hk : decide (0 < k) = true) (h : rowsOk rs m m' rr mm) : rowsOk rs m m' (none :: rr) (some ⟨T, k, []⟩ :: mm) := ⟨⟨rfl, of_decide_eq_true hk⟩, h⟩
theorem lowB_0 {i : Nat} {rs : List (Option Nat)} {m : Mem} : lowB 0 i rs m = true := rfl
theorem lowB_c {n i : Nat} {rs : List (Option Nat)} {mb : MB} {m : Mem} (h : lowB n (i + 1) rs m = true) : lowB (n + 1) i (some i :: rs) (some mb :: m) = true := by simp [lowB, h]
theorem lowB_d {n i : Nat} {rs : List (Option Nat)} {m : Mem} (h : lowB n (i + 1) rs m = true) : lowB (n + 1) i (none :: rs) (none :: m) = true := by simpa [lowB] using h
theorem cutL_0 {n0 : Nat} {t t' : List PV} {m : Mem} (hl : lowB n0 0 [] [] = true) (hT : cutT (rho []) m [] t t') (hM : rowsOk [] m [] [] []) (hi : injB [] = true) : Cuts n0 t m t' [] := cut_mk hT hM hi hl
theorem cutL_1 {n0 : Nat} {t t' : List PV} {m : Mem} {a : Option MB} (r0 : Option Nat) (hl : lowB n0 0 [r0] [a] = true) (hT : cutT (rho [r0]) m [a] t t') (hM : rowsOk [r0] m [a] [r0] [a]) (hi : injB [r0] = true) : Cuts n0 t m t' [a] := cut_mk hT hM hi hl
theorem cutL_2 {n0 : Nat} {t t' : List PV} {m : Mem} {a b : Option MB} (r0 r1 : Option Nat) (hl : lowB n0 0 [r0, r1] [a, b] = true) (hT : cutT (rho [r0, r1]) m [a, b] t t') (hM : rowsOk [r0, r1] m [a, b] [r0, r1] [a, b]) (hi : injB [r0, r1] = true) : Cuts n0 t m t' [a, b] := cut_mk hT hM hi hl
theorem cutL_3 {n0 : Nat} {t t' : List PV} {m : Mem} {a b c : Option MB} (r0 r1 r2 : Option Nat) (hl : lowB n0 0 [r0, r1, r2] [a, b, c] = true) (hT : cutT (rho [r0, r1, r2]) m [a, b, c] t t') (hM : rowsOk [r0, r1, r2] m [a, b, c] [r0, r1, r2] [a, b, c]) (hi : injB [r0, r1, r2] = true) : Cuts n0 t m t' [a, b, c] := cut_mk hT hM hi hl
theorem cutL_4 {n0 : Nat} {t t' : List PV} {m : Mem} {a b c d : Option MB} (r0 r1 r2 r3 : Option Nat) (hl : lowB n0 0 [r0, r1, r2, r3] [a, b, c, d] = true) (hT : cutT (rho [r0, r1, r2, r3]) m [a, b, c, d] t t') (hM : rowsOk [r0, r1, r2, r3] m [a, b, c, d] [r0, r1, r2, r3] [a, b, c, d]) (hi : injB [r0, r1, r2, r3] = true) : Cuts n0 t m t' [a, b, c, d] := cut_mk hT hM hi hl
theorem cutL_5 {n0 : Nat} {t t' : List PV} {m : Mem} {a b c d e : Option MB} (r0 r1 r2 r3 r4 : Option Nat) (hl : lowB n0 0 [r0, r1, r2, r3, r4] [a, b, c, d, e] = true) (hT : cutT (rho [r0, r1, r2, r3, r4]) m [a, b, c, d, e] t t') (hM : rowsOk [r0, r1, r2, r3, r4] m [a, b, c, d, e] [r0, r1, r2, r3, r4] [a, b, c, d, e]) (hi : injB [r0, r1, r2, r3, r4] = true) : Cuts n0 t m t' [a, b, c, d, e] := cut_mk hT hM hi hl
theorem cutL_6 {n0 : Nat} {t t' : List PV} {m : Mem} {a b c d e f : Option MB} (r0 r1 r2 r3 r4 r5 : Option Nat) (hl : lowB n0 0 [r0, r1, r2, r3, r4, r5] [a, b, c, d, e, f] = true) (hT : cutT (rho [r0, r1, r2, r3, r4, r5]) m [a, b, c, d, e, f] t t') (hM : rowsOk [r0, r1, r2, r3, r4, r5] m [a, b, c, d, e, f] [r0, r1, r2, r3, r4, r5] [a, b, c, d, e, f]) (hi : injB [r0, r1, r2, r3, r4, r5] = true) : Cuts n0 t m t' [a, b, c, d, e, f] := cut_mk hT hM hi hl
theorem cutL_7 {n0 : Nat} {t t' : List PV} {m : Mem} {a b c d e f g : Option MB} (r0 r1 r2 r3 r4 r5 r6 : Option Nat) (hl : lowB n0 0 [r0, r1, r2, r3, r4, r5, r6] [a, b, c, d, e, f, g] = true) (hT : cutT (rho [r0, r1, r2, r3, r4, r5, r6]) m [a, b, c, d, e, f, g] t t') (hM : rowsOk [r0, r1, r2, r3, r4, r5, r6] m [a, b, c, d, e, f, g] [r0, r1, r2, r3, r4, r5, r6] [a, b, c, d, e, f, g]) (hi : injB [r0, r1, r2, r3, r4, r5, r6] = true) : Cuts n0 t m t' [a, b, c, d, e, f, g] := cut_mk hT hM hi hl
theorem cutL_8 {n0 : Nat} {t t' : List PV} {m : Mem} {a b c d e f g h : Option MB} (r0 r1 r2 r3 r4 r5 r6 r7 : Option Nat) (hl : lowB n0 0 [r0, r1, r2, r3, r4, r5, r6, r7] [a, b, c, d, e, f, g, h] = true) (hT : cutT (rho [r0, r1, r2, r3, r4, r5, r6, r7]) m [a, b, c, d, e, f, g, h] t t') (hM : rowsOk [r0, r1, r2, r3, r4, r5, r6, r7] m [a, b, c, d, e, f, g, h] [r0, r1, r2, r3, r4, r5, r6, r7] [a, b, c, d, e, f, g, h]) (hi : injB [r0, r1, r2, r3, r4, r5, r6, r7] = true) : Cuts n0 t m t' [a, b, c, d, e, f, g, h] := cut_mk hT hM hi hl
theorem cutL_9 {n0 : Nat} {t t' : List PV} {m : Mem} {a b c d e f g h i : Option MB} (r0 r1 r2 r3 r4 r5 r6 r7 r8 : Option Nat) (hl : lowB n0 0 [r0, r1, r2, r3, r4, r5, r6, r7, r8] [a, b, c, d, e, f, g, h, i] = true) (hT : cutT (rho [r0, r1, r2, r3, r4, r5, r6, r7, r8]) m [a, b, c, d, e, f, g, h, i] t t') (hM : rowsOk [r0, r1, r2, r3, r4, r5, r6, r7, r8] m [a, b, c, d, e, f, g, h, i] [r0, r1, r2, r3, r4, r5, r6, r7, r8] [a, b, c, d, e, f, g, h, i]) (hi : injB [r0, r1, r2, r3, r4, r5, r6, r7, r8] = true) : Cuts n0 t m t' [a, b, c, d, e, f, g, h, i] := cut_mk hT hM hi hl
theorem cutL_10 {n0 : Nat} {t t' : List PV} {m : Mem} {a b c d e f g h i j : Option MB} (r0 r1 r2 r3 r4 r5 r6 r7 r8 r9 : Option Nat) (hl : lowB n0 0 [r0, r1, r2, r3, r4, r5, r6, r7, r8, r9] [a, b, c, d, e, f, g, h, i, j] = true) (hT : cutT (rho [r0, r1, r2, r3, r4, r5, r6, r7, r8, r9]) m [a, b, c, d, e, f, g, h, i, j] t t') (hM : rowsOk [r0, r1, r2, r3, r4, r5, r6, r7, r8, r9] m [a, b, c, d, e, f, g, h, i, j] [r0, r1, r2, r3, r4, r5, r6, r7, r8, r9] [a, b, c, d, e, f, g, h, i, j]) (hi : injB [r0, r1, r2, r3, r4, r5, r6, r7, r8, r9] = true) : Cuts n0 t m t' [a, b, c, d, e, f, g, h, i, j] := cut_mk hT hM hi hl
theorem cutL_11 {n0 : Nat} {t t' : List PV} {m : Mem} {a b c d e f g h i j k : Option MB} (r0 r1 r2 r3 r4 r5 r6 r7 r8 r9 r10 : Option Nat) (hl : lowB n0 0 [r0, r1, r2, r3, r4, r5, r6, r7, r8, r9, r10] [a, b, c, d, e, f, g, h, i, j, k] = true) (hT : cutT (rho [r0, r1, r2, r3, r4, r5, r6, r7, r8, r9, r10]) m [a, b, c, d, e, f, g, h, i, j, k] t t') (hM : rowsOk [r0, r1, r2, r3, r4, r5, r6, r7, r8, r9, r10] m [a, b, c, d, e, f, g, h, i, j, k] [r0, r1, r2, r3, r4, r5, r6, r7, r8, r9, r10] [a, b, c, d, e, f, g, h, i, j, k]) (hi : injB [r0, r1, r2, r3, r4, r5, r6, r7, r8, r9, r10] = true) : Cuts n0 t m t' [a, b, c, d, e, f, g, h, i, j, k] := cut_mk hT hM hi hl
theorem cutL_12 {n0 : Nat} {t t' : List PV} {m : Mem} {a b c d e f g h i j k l : Option MB} (r0 r1 r2 r3 r4 r5 r6 r7 r8 r9 r10 r11 : Option Nat) (hl : lowB n0 0 [r0, r1, r2, r3, r4, r5, r6, r7, r8, r9, r10, r11] [a, b, c, d, e, f, g, h, i, j, k, l] = true) (hT : cutT (rho [r0, r1, r2, r3, r4, r5, r6, r7, r8, r9, r10, r11]) m [a, b, c, d, e, f, g, h, i, j, k, l] t t') (hM : rowsOk [r0, r1, r2, r3, r4, r5, r6, r7, r8, r9, r10, r11] m [a, b, c, d, e, f, g, h, i, j, k, l] [r0, r1, r2, r3, r4, r5, r6, r7, r8, r9, r10, r11] [a, b, c, d, e, f, g, h, i, j, k, l]) (hi : injB [r0, r1, r2, r3, r4, r5, r6, r7, r8, r9, r10, r11] = true) : Cuts n0 t m t' [a, b, c, d, e, f, g, h, i, j, k, l] := cut_mk hT hM hi hl
theorem goodD_cells {b : Bool} {T : TK} {k : Nat} {es : List (List PV)} (h : ∀ cs ∈ es, ∀ p ∈ cs, goodC b p) : ∀ mb, some mb ∈ ([some ⟨T, k, es⟩] : Mem) → ∀ cs ∈ mb.es, ∀ p ∈ cs, goodC b p := by
  intro mb hm
  simp only [List.mem_singleton, Option.some.injEq] at hm
  subst hm
  exact h
theorem hm_none {m : Mem} {b : Bool} (h2 : ∀ mb, some mb ∈ m → ∀ cs ∈ mb.es, ∀ p ∈ cs, goodC b p) : ∀ mb, some mb ∈ ((none : Option MB) :: m) → ∀ cs ∈ mb.es, ∀ p ∈ cs, goodC b p := by
  intro mb h
  rcases List.mem_cons.1 h with h | h
  · cases h
  · exact h2 mb h
theorem hm_e {T : TK} {k : Nat} {b : Bool} : ∀ mb, some mb ∈ ([some ⟨T, k, []⟩] : Mem) → ∀ cs ∈ mb.es, ∀ p ∈ cs, goodC b p := goodD_cells (by simp)
theorem Hnone {α β : Type} {K : α → Option β} {r : β} (h : (none : Option α).bind K = some r) : False := by cases h
theorem eqT_Label {n : Nat} {a b a2 b2 : Int} {c c2 : ByteArray} : eqT Tryz.prog (n + 3) 23 [vi a, vi b, vs c] [vi a2, vi b2, vs c2] = some (decide ((⟨a, b, c⟩ : YLabel) = (⟨a2, b2, c2⟩ : YLabel))) := by
  simp only [eqT, Tryz.underlying3, Tryz.underlying23, ts23, Tryz.underlying9, Program.fieldsOf, go_sem]
  simp [tc23, tc3, tc9]
  rw [baB]; rfl
@[go_sem] theorem eqK_Label {a b a2 b2 : Int} {c c2 : ByteArray} {KR : PV → Prop} : eqK Tryz.prog .eql 23 [vi a, vi b, vs c] [vi a2, vi b2, vs c2] KR = KR (vb (decide ((⟨a, b, c⟩ : YLabel) = (⟨a2, b2, c2⟩ : YLabel)))) := by unfold eqK; rw [show (10000 : Nat) = 9997 + 3 from rfl, eqT_Label, Tryz.underlying23]; simp only [te23, true_and]
@[go_sem] theorem neK_Label {a b a2 b2 : Int} {c c2 : ByteArray} {KR : PV → Prop} : eqK Tryz.prog .neq 23 [vi a, vi b, vs c] [vi a2, vi b2, vs c2] KR = KR (vb (!decide ((⟨a, b, c⟩ : YLabel) = (⟨a2, b2, c2⟩ : YLabel)))) := by unfold eqK; rw [show (10000 : Nat) = 9997 + 3 from rfl, eqT_Label, Tryz.underlying23]; simp only [te23, true_and]
theorem eqT_Leg {n : Nat} {a a2 : ByteArray} {b b2 : ByteArray} {c c2 : Int} {d d2 : Int} {e e2 : Int} {f f2 : Int} : eqT Tryz.prog (n + 3) 133 [vs a, vs b, vi c, vi d, vi e, vi f] [vs a2, vs b2, vi c2, vi d2, vi e2, vi f2] = some (decide ((⟨a, b, c, d, e, f⟩ : YLeg) = (⟨a2, b2, c2, d2, e2, f2⟩ : YLeg))) := by
  simp only [eqT, Tryz.underlying3, Tryz.underlying133, ts133, Tryz.underlying9, Program.fieldsOf, go_sem]
  simp [tc133, tc3, tc9, baB]
  rfl
@[go_sem] theorem eqK_Leg {a a2 : ByteArray} {b b2 : ByteArray} {c c2 : Int} {d d2 : Int} {e e2 : Int} {f f2 : Int} {KR : PV → Prop} : eqK Tryz.prog .eql 133 [vs a, vs b, vi c, vi d, vi e, vi f] [vs a2, vs b2, vi c2, vi d2, vi e2, vi f2] KR = KR (vb (decide ((⟨a, b, c, d, e, f⟩ : YLeg) = (⟨a2, b2, c2, d2, e2, f2⟩ : YLeg)))) := by unfold eqK; rw [show (10000 : Nat) = 9997 + 3 from rfl, eqT_Leg, Tryz.underlying133]; simp only [te133, true_and]
@[go_sem] theorem neK_Leg {a a2 : ByteArray} {b b2 : ByteArray} {c c2 : Int} {d d2 : Int} {e e2 : Int} {f f2 : Int} {KR : PV → Prop} : eqK Tryz.prog .neq 133 [vs a, vs b, vi c, vi d, vi e, vi f] [vs a2, vs b2, vi c2, vi d2, vi e2, vi f2] KR = KR (vb (!decide ((⟨a, b, c, d, e, f⟩ : YLeg) = (⟨a2, b2, c2, d2, e2, f2⟩ : YLeg)))) := by unfold eqK; rw [show (10000 : Nat) = 9997 + 3 from rfl, eqT_Leg, Tryz.underlying133]; simp only [te133, true_and]
theorem eqT_Scan {n : Nat} {a a2 : Int} {b b2 : Int} {c c2 : Int} {d d2 : ByteArray} {e e2 : Int} {f f2 : Int} : eqT Tryz.prog (n + 3) 233 [vi a, vi b, vi c, vs d, vi e, vi f] [vi a2, vi b2, vi c2, vs d2, vi e2, vi f2] = some (decide ((⟨a, b, c, d, ⟨e, f⟩⟩ : YScan) = (⟨a2, b2, c2, d2, ⟨e2, f2⟩⟩ : YScan))) := by
  simp only [eqT, Tryz.underlying3, Tryz.underlying233, ts233, Tryz.underlying28, ts28, Tryz.underlying9, Program.fieldsOf, go_sem]
  simp [tc233, tc28, tc3, tc9, baB]
  rfl
@[go_sem] theorem eqK_Scan {a a2 : Int} {b b2 : Int} {c c2 : Int} {d d2 : ByteArray} {e e2 : Int} {f f2 : Int} {KR : PV → Prop} : eqK Tryz.prog .eql 233 [vi a, vi b, vi c, vs d, vi e, vi f] [vi a2, vi b2, vi c2, vs d2, vi e2, vi f2] KR = KR (vb (decide ((⟨a, b, c, d, ⟨e, f⟩⟩ : YScan) = (⟨a2, b2, c2, d2, ⟨e2, f2⟩⟩ : YScan)))) := by unfold eqK; rw [show (10000 : Nat) = 9997 + 3 from rfl, eqT_Scan, Tryz.underlying233]; simp only [te233, true_and]
@[go_sem] theorem neK_Scan {a a2 : Int} {b b2 : Int} {c c2 : Int} {d d2 : ByteArray} {e e2 : Int} {f f2 : Int} {KR : PV → Prop} : eqK Tryz.prog .neq 233 [vi a, vi b, vi c, vs d, vi e, vi f] [vi a2, vi b2, vi c2, vs d2, vi e2, vi f2] KR = KR (vb (!decide ((⟨a, b, c, d, ⟨e, f⟩⟩ : YScan) = (⟨a2, b2, c2, d2, ⟨e2, f2⟩⟩ : YScan)))) := by unfold eqK; rw [show (10000 : Nat) = 9997 + 3 from rfl, eqT_Scan, Tryz.underlying233]; simp only [te233, true_and]
set_option maxRecDepth 4000
theorem cutC_fnL {ρ : Nat → Option Nat} {m m' : Mem} {f : FuncId} {cs ds : List PV} (h : cutL ρ m m' cs ds) : CutC ρ m m' (.fn f cs) (.fn f ds) := by
  have key : ∀ (cs ds : List PV), cutL ρ m m' cs ds → ds.length = cs.length ∧ ∀ (j : Nat) (p r : PV), cs[j]? = some p → ds[j]? = some r → CutC ρ m m' p r := by
    intro cs
    induction cs with
    | nil => intro ds h; cases ds with
      | nil => exact ⟨rfl, by simp⟩
      | cons d ds => exact h.elim
    | cons c cs ih => intro ds h; cases ds with
      | nil => exact h.elim
      | cons d ds =>
        obtain ⟨h1, h2⟩ := h
        obtain ⟨k1, k2⟩ := ih ds h2
        refine ⟨by simp [k1], fun j p r hp hr => ?_⟩
        cases j with
        | zero => simp at hp hr; subst hp hr; exact h1
        | succ j => simp at hp hr; exact k2 j p r hp hr
  obtain ⟨a, b⟩ := key cs ds h
  exact .fn f cs ds a b
theorem idxmapN {α : Type} {xs : List α} {n : Nat} {y : α} {c : α → List PV} (h : getI xs (n : Int) = some y) : (xs.map c)[n]? = some (c y) := by
  unfold getI at h
  rw [if_pos (Int.natCast_nonneg n), Int.toNat_natCast] at h
  rw [List.getElem?_map, h]; rfl
theorem lit3 {a b c i y : Int} (h : getI [a, b, c] i = some y) : ([[PV.v (.int .i64 a)], [PV.v (.int .i64 b)], [PV.v (.int .i64 c)]] : List (List PV))[i.toNat]? = some [PV.v (.int .i64 y)] := by
  have : ([[PV.v (.int .i64 a)], [PV.v (.int .i64 b)], [PV.v (.int .i64 c)]] : List (List PV)) = [a, b, c].map cInt := rfl
  rw [this]; exact idxmap h
theorem lit3s {a b c y : ByteArray} {i : Int} (h : getI [a, b, c] i = some y) : ([[PV.v (.string a)], [PV.v (.string b)], [PV.v (.string c)]] : List (List PV))[i.toNat]? = some [PV.v (.string y)] := by
  have : ([[PV.v (.string a)], [PV.v (.string b)], [PV.v (.string c)]] : List (List PV)) = [a, b, c].map cStr := rfl
  rw [this]; exact idxmap h
theorem pDyn_fn {P : Program} {io : Bool} {wd ν : Nat} {f : FuncId} {cs ps : List PV} {m : Mem} {K : PV → Mem → Prop} (h1 : ∀ c ∈ cs, isR c = true) (h2 : isFn P f) (h3 : pCall P io wd ν f (ps ++ cs) m K) : pDyn P io wd ν (.fn f cs) ps m K := ⟨h1, h2, h3⟩
def cIntS (x : List Int) : List PV := [.sl (x.map cInt)]
instance : EncOf (List Int) := ⟨cIntS⟩
instance : PlainC cIntS := ⟨fun x q h => by simp only [cIntS, List.mem_singleton] at h; subst h; rfl⟩
attribute [go_sem] cIntS
theorem xc {p : Prop} (h : p := by (try simp only [U_s, U_z]); (with_reducible refine cutS ?_); (first | (with_reducible apply cutL_0) | (with_reducible apply cutL_1) | (with_reducible apply cutL_2) | (with_reducible apply cutL_3) | (with_reducible apply cutL_4) | (with_reducible apply cutL_5) | (with_reducible apply cutL_6) | (with_reducible apply cutL_7) | (with_reducible apply cutL_8) | (with_reducible apply cutL_9) | (with_reducible apply cutL_10) | (with_reducible apply cutL_11) | (with_reducible apply cutL_12)); (repeat' (first       | (with_reducible exact lowB_0) | (with_reducible refine lowB_c ?_) | (with_reducible refine lowB_d ?_) | (with_reducible refine cutT_un ?_)       | (with_reducible refine cutT_c ?_ ?_)       | (with_reducible exact cutT_nil)       | (with_reducible exact cutV_c rfl)       | exact cutV_c rfl       | (with_reducible exact cutL_nil)       | (with_reducible refine cutL_c ?_ ?_)       | exact .c _ rfl       | exact .un _       | exact cutC_ms rfl rfl       | exact cutC_be rfl rfl       | exact cutC_nilsl0 | exact cutC_nilsl       | exact cutC_nilms rfl rfl       | (refine cutC_fms rfl ?_) | (refine cutC_fmso rfl rfl ?_) | (refine cutC_fss rfl rfl rfl ?_)       | (refine cutC_fbe rfl rfl ?_)       | (with_reducible refine cutC_fnL ?_) | (with_reducible refine cutV_ag ?_)       | (with_reducible refine cutV_tu ?_)       | (with_reducible exact cutAs_nil)       | (with_reducible refine cutAs_c ?_ ?_)       | (with_reducible refine cutA_ag ?_)       | (with_reducible refine cutA_k ?_)       | (with_reducible refine cutV_k ?_)       | (with_reducible exact rowsOk_nil)       | (refine rowsOk_live rfl ?_ ?_)       | (refine rowsOk_new0 rfl ?_) | (refine rowsOk_new rfl ?_)       | (with_reducible refine rowsOk_dead ?_)       | (with_reducible refine cutB_one ?_)       | (with_reducible exact cutB_nil)       | (with_reducible refine cutB_two ?_)       | (with_reducible exact cutE_n)       | (with_reducible refine cutE_c ?_ ?_)       | (with_reducible exact cutB_same)       | (with_reducible refine cutB_set ?_)       | exact cutB_same       | (refine cutB_set ?_)       | (refine cutB_rep ?_)       | (refine cutB_snoc ?_)       | (refine cutB_setN rfl ?_)       | (refine cutB_snocK rfl rfl rfl rfl ?_)       | (refine cutB_setK ?_ rfl rfl rfl rfl ?_)       | (simp only [cInt, cStr, cBool, cB8, cl1Cur, cLabel, cParcel, cZone, cRate, cLeg, cNetwork, cTrip, cBooking, cScan, cOrder, cWorld, cLine, cAct, cOffice, cItem, cChute, cInlet, cCentre, cThing, cBelief])       | (with_unfolding_all rfl))); (all_goals first | (exact dropped_of rfl) | exact none); (first | done | fail)) : p := h
theorem xf {p : Prop} (h : p := by (first | exact hm_nil | (repeat (first | exact hm_one | exact hm_oneT | exact hm_e | (refine hm_c hm_one ?_) | (refine hm_c hm_oneT ?_) | (refine hm_c hm_e ?_) | exact goodD_cells (by simp [goodC, isR]) | (refine hm_none ?_) | (refine hm_c (goodD_cells (by simp [goodC, isR])) ?_)))); (first | done | fail)) : p := h
theorem xs {p : Prop} (h : p := by ((refine CallM.weak (CT.ok hy) ?_); (repeat' (first | exact SubA.n | (refine SubA.c ?_ ?_) | exact SubV.c (SubC.r _) | (refine SubV.ag ?_) | exact SubL.n | (refine SubL.c ?_ ?_) | exact SubC.r _ | exact SubC.nil _ | exact SubC.un _))); (first | done | fail)) : p := h
theorem wk3 {p : Prop} (h : p := by
  (simp only [List.length_cons, List.length_nil, Nat.reduceAdd, Nat.reduceSub, List.replicate_succ, List.replicate_zero, List.cons_append, List.nil_append, go_sem]);
  repeat' (first
    | ((with_reducible refine pDyn_fn ?_ ?_ ?_); (focus (simp [isR])); (focus (simp only [go_sem])); (simp only [List.cons_append, List.nil_append]))
    | ((with_reducible refine pwp_drwL H rfl (by kernel_rfl) ?_); (clear H; intro H; simp only [go_sem, Nat.reduceAdd, Nat.reduceSub, Nat.reduceMul, Nat.reduceLT, Nat.reduceLeDiff, Nat.reduceEqDiff, if_true, eq_self]))
    | ((with_reducible refine rhoSD (rhoH H) ?_); (refine call_ioD H rfl rfl ?_ ?_ ?_ ?_ ?_ ?_ ?_ ?_); (focus (first | rfl | (simp only [CT.args, List.map_cons, List.map_nil, renA, renC, ren1, sig_z, sig_s, sig_n]; done))); (focus (simp [CT.args, CT.m0, goodA, goodC, lowA, lowC, low1, isR])); (focus (first | exact List.nodup_nil | decide)); (focus ((simp only [CT.m0]); (repeat' (first | exact inRows_nil | (refine inRows_map (by rfl) ?_) | (refine inRows_one (by rfl) (by rfl) (by simp [goodC, lowC, low1, isR]) ?_))))); (focus (intro y_; simp [CT.mem, CT.m0])); (focus (intro y_; (simp only [CT.mem]); (repeat (first | exact hm_nil | exact hm_one | exact hm_oneT | (refine hm_c hm_one ?_) | (refine hm_c (goodD_cells (by simp [goodC, isR])) ?_) | exact goodD_cells (by simp [goodC, isR]) | (refine hm_none ?_))))); (focus (intro y_; (simp [CT.res, goodV, goodA, goodC, isR]))); (clear H; intro y_ hy H; simp only [CT.res, CT.mem, putIn, List.drop_succ_cons, List.drop_zero, Option.map_none, go_sem, Nat.reduceAdd, Nat.reduceSub, Nat.reduceMul, Nat.reduceLT, Nat.reduceLeDiff, Nat.reduceEqDiff, if_true, eq_self]))
    | ((with_reducible refine jnS (jnH H) ?_); (first | ((refine pwp_jn2 H ?_ ?_ (fun K_ hL H => ?_) (fun o_ H => ?_)); (focus (decide +kernel)); (focus (decide +kernel))) | ((refine pwp_jn H ?_ ?_ (fun K_ hL H => ?_) (fun o_ H => ?_)); (focus (decide +kernel)); (focus (decide +kernel)))))
    | ((with_reducible refine rhoS (rhoH H) ?_); (refine call_io H rfl rfl rfl ?_ ?_ ?_ ?_ ?_ ?_ ?_ ?_); (focus (first | rfl | (simp only [CT.args, List.map_cons, List.map_nil, renA, renC, ren1, sig_z, sig_s, sig_n]; done))); (focus (simp [CT.args, CT.m0, goodA, goodC, lowA, lowC, low1, isR])); (focus (first | exact List.nodup_nil | decide)); (focus ((simp only [CT.m0]); (repeat' (first | exact inRows_nil | (refine inRows_map (by rfl) ?_) | (refine inRows_one (by rfl) (by rfl) (by simp [goodC, lowC, low1, isR]) ?_))))); (focus (intro y_; simp [CT.mem, CT.m0])); (focus (intro y_; (simp only [CT.mem]); (repeat (first | exact hm_nil | exact hm_one | exact hm_oneT | (refine hm_c hm_one ?_) | (refine hm_c (goodD_cells (by simp [goodC, isR])) ?_) | exact goodD_cells (by simp [goodC, isR]) | (refine hm_none ?_))))); (focus (intro y_; (simp [CT.res, goodV, goodA, goodC, isR]))); (clear H; intro y_ hy H; simp only [CT.res, CT.mem, putIn, List.drop_succ_cons, List.drop_zero, Option.map_none, go_sem, Nat.reduceAdd, Nat.reduceSub, Nat.reduceMul, Nat.reduceLT, Nat.reduceLeDiff, Nat.reduceEqDiff, if_true, eq_self]))
    | ((with_reducible refine pwp_frzL H ?_ ?_); (focus (exact xc)); (clear H; intro z_ H))
    | ((with_reducible refine pwp_frz H ?_ ?_); (focus (exact xc)); (clear H; intro H))
    | ((with_reducible refine pwp_seq ?_); intro K_ hK)
    | ((with_reducible refine pwp_block ?_))
    | ((with_reducible refine pwp_region ?_); simp only [go_sem, Nat.reduceAdd, Nat.reduceSub, Nat.reduceMul, Nat.reduceLT, Nat.reduceLeDiff, Nat.reduceEqDiff, if_true, eq_self])
    | ((with_reducible refine pwp_skip ?_); (try simp only [thenP_normal, blockP_normal]))
    | ((with_reducible refine pwp_exit ?_); (simp only [thenP_exit, blockP_exit, thenP_normal, blockP_normal, if_true, if_false, eq_self, Nat.reduceEqDiff, Nat.one_ne_zero, Nat.zero_ne_one]); (try simp only [bexR, bsr, bsl] at H))
    | ((with_reducible refine pwp_ret ?_); (try simp only [thenP_ret, blockP_ret]))
    | ((with_reducible refine hQ _ _ ?_); (try simp only [bexR, bsr, bsl] at H); replace H := Hret H; subst H; simp only [Fin, resP, oneP, go_sem, Nat.reduceAdd, Nat.reduceSub, Nat.reduceMul, Nat.reduceLT, Nat.reduceLeDiff, Nat.reduceEqDiff, if_true, eq_self]; exact xc)
    | ((with_reducible refine hQn _ _ ?_); (try simp only [bexR, bsr, bsl] at H); replace H := Hret H; subst H; simp only [Fin, resP, oneP, go_sem, Nat.reduceAdd, Nat.reduceSub, Nat.reduceMul, Nat.reduceLT, Nat.reduceLeDiff, Nat.reduceEqDiff, if_true, eq_self]; exact xc)
    | ((with_reducible refine gateS ?_); (refine gate2_intro (fun hg => Hc1k H hg ?_) (fun hg => Hc2k H hg ?_)) <;> (clear H; intro H; simp only [go_sem, Nat.reduceAdd, Nat.reduceSub, Nat.reduceMul, Nat.reduceLT, Nat.reduceLeDiff, Nat.reduceEqDiff, if_true, eq_self]))
    | ((with_reducible refine pwp_condE ?_); simp only [evP_tmp, getD_z, getD_s, evP_bool]; (first | (with_reducible refine condP_tt ?_) | (with_reducible refine condP_ff ?_) | ((refine condP_intro (fun hg => Hc1k H hg ?_) (fun hg => Hc2k H hg ?_)) <;> (clear H; intro H))))
    | ((with_reducible refine idxS ?_); replace H := Hcall H; obtain ⟨y_, hy, H⟩ := H; (with_reducible apply idx_sl hy); (focus (first | (simp only [go_sem]; done) | (simp only [go_sem]; decide))); (focus (first | rfl | (simp only [go_sem]; rfl))); simp only [go_sem, Nat.reduceAdd, Nat.reduceSub, Nat.reduceMul, Nat.reduceLT, Nat.reduceLeDiff, Nat.reduceEqDiff, if_true, eq_self])
    | ((with_reducible refine idxM ?_); replace H := Hcall H; obtain ⟨y_, hy, H⟩ := H; (first | (refine idx_msb hy (by rfl) (by first | (simp only [go_sem]; done) | (simp only [go_sem]; decide)) (by first | rfl | (simp only [go_sem]; rfl)) ?_) | (refine idx_msov hy (by rfl) (by first | (simp only [go_sem]; done) | (simp only [go_sem]; decide)) (by first | rfl | (simp only [go_sem]; rfl)) ?_)); simp only [go_sem, Nat.reduceAdd, Nat.reduceSub, Nat.reduceMul, Nat.reduceLT, Nat.reduceLeDiff, Nat.reduceEqDiff, if_true, eq_self])
    | ((with_reducible refine idxB ?_); replace H := Hcall H; obtain ⟨y_, hy, H⟩ := H; (with_reducible apply idx_str hy); (focus (simp only [go_sem])); simp only [go_sem, Nat.reduceAdd, Nat.reduceSub, Nat.reduceMul, Nat.reduceLT, Nat.reduceLeDiff, Nat.reduceEqDiff, if_true, eq_self])
    | ((with_reducible refine callS ?_); replace H := Hcall H; obtain ⟨y_, hy, H⟩ := H; (first | ((with_reducible apply call_deep); (focus (exact CT.ok hy)); (focus (simp [isCA, isC, isC1])); (focus (exact Nat.le_of_ble_eq_true rfl)); (focus (exact xf)); (focus (first | exact gV_ag rfl | exact gV_tu rfl | exact gV_agM rfl | exact gV_tuM rfl | exact (fun h => (by cases h)) | (simp [CT.res, goodV, goodA, goodC, isR]))); (simp only [CT.res, CT.mem, go_sem, Nat.reduceAdd, Nat.reduceSub, Nat.reduceMul, Nat.reduceLT, Nat.reduceLeDiff, Nat.reduceEqDiff, if_true, eq_self])) | ((with_reducible apply call_deep); (focus (exact xs)); (focus (simp [isCA, isC, isC1])); (focus (exact Nat.le_of_ble_eq_true rfl)); (focus (exact xf)); (focus (first | exact gV_ag rfl | exact gV_tu rfl | exact gV_agM rfl | exact gV_tuM rfl | exact (fun h => (by cases h)) | (simp [CT.res, goodV, goodA, goodC, isR]))); (simp only [CT.res, CT.mem, go_sem, Nat.reduceAdd, Nat.reduceSub, Nat.reduceMul, Nat.reduceLT, Nat.reduceLeDiff, Nat.reduceEqDiff, if_true, eq_self])) | ((with_reducible apply call_flat); (focus (first | (simp only [snapA, snapV, snapC, snapL, live_look, look_z, look_s, rowQ_map, drop_mp, take_mp, List.forall_mem_nil, true_and, and_true, if_true]; (first | exact CT.ok hy | (simp only [all_nil, all_cons, isC, isC1, true_and, and_true, if_true]; exact CT.ok hy))) | (simp only [snapA, snapV, snapC, snapL, live_look, look_z, look_s, rowQ_map, drop_mp, take_mp, List.forall_mem_nil, true_and, and_true, if_true]; (first | (exact xs) | (simp only [all_nil, all_cons, isC, isC1, true_and, and_true, if_true]; (exact xs)))) | (simp only [snapA, snapV, snapC, snapL, live_look, look_z, look_s, rowQ_map, drop_mp, take_mp, List.forall_mem_nil, true_and, and_true, if_true]; (exact xs)))); (focus (exact Nat.le_of_ble_eq_true rfl)); (focus (exact xf)); (focus (first | exact gV_agF rfl | exact (fun _ => rfl) | (simp [CT.res, goodV, goodA, goodC, isF]))); (simp only [CT.res, CT.mem, go_sem, Nat.reduceAdd, Nat.reduceSub, Nat.reduceMul, Nat.reduceLT, Nat.reduceLeDiff, Nat.reduceEqDiff, if_true, eq_self]))))
    | ((with_reducible refine slcS ?_); replace H := Hchk H; obtain ⟨hc, H⟩ := H; (first | ((with_reducible apply slice_sl hc); (focus rfl); (focus rfl); (focus (first | (simp only [go_sem]; done) | (simp only [go_sem]; decide))); (focus (first | rfl | (intro x_; rfl))); simp only [go_sem, Nat.reduceAdd, Nat.reduceSub, Nat.reduceMul, Nat.reduceLT, Nat.reduceLeDiff, Nat.reduceEqDiff, if_true, eq_self]) | ((refine slice_msb hc (by rfl) (by rfl) (by rfl) (by first | (simp only [go_sem]; done) | (simp only [go_sem]; decide)) (by first | rfl | (simp only [go_sem]; rfl)) ?_); simp only [go_sem, Nat.reduceAdd, Nat.reduceSub, Nat.reduceMul, Nat.reduceLT, Nat.reduceLeDiff, Nat.reduceEqDiff, if_true, eq_self]) | ((with_reducible apply slice_str hc); (focus rfl); (focus rfl); (focus (simp only [go_sem])); simp only [go_sem, Nat.reduceAdd, Nat.reduceSub, Nat.reduceMul, Nat.reduceLT, Nat.reduceLeDiff, Nat.reduceEqDiff, if_true, eq_self])))
    | ((with_reducible refine appS ?_); replace H := Hchk H; obtain ⟨hc, H⟩ := H; (first | (refine app_msb hc (by first | (simp only [go_sem]; done) | (simp only [go_sem]; rfl)) (by first | (simp only [go_sem]; done) | (simp only [go_sem]; rfl)) (by first | (simp only [go_sem]; done) | (simp only [go_sem]; rfl)) (by first | (simp only [go_sem]; done) | (simp only [go_sem]; rfl)) (by rfl) (by first | rfl | exact src_ss' (by rfl) (by rfl) (by rfl)) rfl rfl (by intro x_; rfl) rfl ?_) | (refine app_nlb hc (by first | (simp only [go_sem]; done) | (simp only [go_sem]; rfl)) (by first | (simp only [go_sem]; done) | (simp only [go_sem]; rfl)) (by first | (simp only [go_sem]; done) | (simp only [go_sem]; rfl)) (by first | (simp only [go_sem]; done) | (simp only [go_sem]; rfl)) (by first | rfl | exact src_ss' (by rfl) (by rfl) (by rfl)) rfl rfl (by intro x_; rfl) ?_) | (refine app_msK hc rfl (by first | (simp only [go_sem]; done) | (simp only [go_sem]; rfl)) (by first | (simp only [go_sem]; done) | (simp only [go_sem]; rfl)) (by first | (simp only [go_sem]; done) | (simp only [go_sem]; rfl)) (by first | (simp only [go_sem]; done) | (simp only [go_sem]; rfl)) (by rfl) (by rfl) (by rfl) (by rfl) rfl rfl (by rfl) ?_)); simp only [go_sem, Nat.reduceAdd, Nat.reduceSub, Nat.reduceMul, Nat.reduceLT, Nat.reduceLeDiff, Nat.reduceEqDiff, if_true, eq_self])
    | ((with_reducible refine mkS ?_); replace H := Hchk H; obtain ⟨hc, H⟩ := H; (refine make_b hc (by first | (simp only [go_sem]; done) | (simp only [go_sem]; rfl)) (by first | (simp only [go_sem]; done) | (simp only [go_sem]; rfl)) (by first | (simp only [go_sem]; done) | (simp only [go_sem]; rfl)) (by first | (simp only [go_sem]; done) | (simp only [go_sem]; rfl)) rfl rfl ?_); simp only [go_sem, Nat.reduceAdd, Nat.reduceSub, Nat.reduceMul, Nat.reduceLT, Nat.reduceLeDiff, Nat.reduceEqDiff, if_true, eq_self])
    | ((with_reducible refine optS ?_); (first | (with_reducible refine opt_if (by decide) ?_) | (replace H := Hchk H; obtain ⟨hc, H⟩ := H; (first | (refine opt_if hc ?_) | (refine opt_if (of_decide_eq_true hc) ?_) | (refine opt_if ⟨rfl, of_decide_eq_true hc⟩ ?_)))); simp only [go_sem, Nat.reduceAdd, Nat.reduceSub, Nat.reduceMul, Nat.reduceLT, Nat.reduceLeDiff, Nat.reduceEqDiff, if_true, eq_self])
    | ((with_reducible refine loopS ?_); (refine pwp_loopH (Hlp H) ?_ ?_); (focus (simp only [LoopE.T, LoopE.M, U_s, U_z]; exact xc)); (clear H; intro n_ s_ H K_ hL; replace H := Hrd H; simp only [LoopE.T, LoopE.M, U_s, U_z]))
    | ((with_reducible refine pwp_draw (by kernel_rfl) ?_); simp only [go_sem, Nat.reduceAdd, Nat.reduceSub, Nat.reduceMul, Nat.reduceLT, Nat.reduceLeDiff, Nat.reduceEqDiff, if_true, eq_self])
    | ((with_reducible refine endD_intro (by kernel_rfl) ?_); (try simp only [thenP_normal, blockP_normal]))
    | ((with_reducible refine hK _ _ ?_); clear hK)
    | (clear hK; (with_reducible refine hK _ _ ?_); clear hK)
    | (clear hK; clear hK; (with_reducible refine hK _ _ ?_); clear hK)
    | (clear hK; clear hK; clear hK; (with_reducible refine hK _ _ ?_); clear hK)
    | (clear hK; clear hK; clear hK; clear hK; (with_reducible refine hK _ _ ?_); clear hK)
    | (clear hK; clear hK; clear hK; clear hK; clear hK; (with_reducible refine hK _ _ ?_); clear hK)
    | ((with_reducible refine And.intro ?_ ?_); omega)
    | (simp only [nxt_app, nxd_app, nxe_app, atM_app]; simp only [go_sem, Nat.reduceAdd, Nat.reduceSub, Nat.reduceMul, Nat.reduceLT, Nat.reduceLeDiff, Nat.reduceEqDiff, if_true, eq_self])
    | ((first | simp only [lit3 hy, Option.map_some, List.drop_zero, go_sem] | simp only [lit3s hy, Option.map_some, List.drop_zero, go_sem] | simp only [idxmapN hy, idxmap hy, idxset hy, go_sem, Nat.reduceAdd, Nat.reduceSub, Nat.reduceMul, Nat.reduceLT, Nat.reduceLeDiff, Nat.reduceEqDiff, if_true, eq_self] | simp only [idxmap hy, idxset hy, go_sem, Nat.reduceAdd, Nat.reduceSub, Nat.reduceMul, Nat.reduceLT, Nat.reduceLeDiff, Nat.reduceEqDiff, if_true, eq_self]))
    | ((with_reducible replace H := HexL H); (with_reducible refine hL _ _ _ H ?_); (try simp only [LoopE.T, LoopE.M, U_s, U_z]); exact xc)
    | ((with_reducible replace H := HexL H); clear hL; (with_reducible refine hL _ _ _ H ?_); (try simp only [LoopE.T, LoopE.M, U_s, U_z]); exact xc)
    | ((with_reducible refine jnX H hL ?_); exact xc)
    | (with_reducible exact (Hnone H).elim)
    | ((with_reducible replace H := rgH H); obtain ⟨y_, hy, H⟩ := H; (first | simp only [lit3 hy, Option.map_some, List.drop_zero, go_sem] | simp only [lit3s hy, Option.map_some, List.drop_zero, go_sem] | simp only [idxmapN hy, idxmap hy, idxset hy, go_sem, Nat.reduceAdd, Nat.reduceSub, Nat.reduceMul, Nat.reduceLT, Nat.reduceLeDiff, Nat.reduceEqDiff, if_true, eq_self] | simp only [idxmap hy, idxset hy, go_sem, Nat.reduceAdd, Nat.reduceSub, Nat.reduceMul, Nat.reduceLT, Nat.reduceLeDiff, Nat.reduceEqDiff, if_true, eq_self])))) : p := h
def E00 : Env := E1 (fun _ => False) (fun _ => none) 0
theorem rep00 {w w' : World} {E : Env} {p : PV} {x : Value} (h : Rep w E00 p x) : Rep w' E p x := by
  induction h with
  | c h =>
    refine .c ?_
    induction h with
    | v x h => exact .v x h
    | ud => exact .ud
    | un x => exact .un x
    | nil A c => exact .nil A c
    | sl _ _ _ _ _ _ hS => exact hS.elim
    | rp _ _ _ _ hS => exact hS.elim
    | fn f cs vs hl hr ih => exact .fn f cs vs hl ih
  | ms l x hl => exact absurd hl (Nat.not_lt_zero _)
  | ss l a b x hl => exact absurd hl (Nat.not_lt_zero _)
  | be l i o x hl => exact absurd hl (Nat.not_lt_zero _)
  | ag cs vs hl h1 hr ih => exact .ag cs vs hl h1 ih
  | tu ps vs hl hr ih => exact .tu ps vs hl ih
  | fn f cs vs hl hr ih => exact .fn f cs vs hl ih
theorem BlkRep.to0 {w : World} {T : TypeId} {k : Nat} {es : List (List PV)} {B : Blk} (h : BlkRep w E00 ⟨T, k, es⟩ B) (E : Env) : BlkRep w E ⟨T, k, es⟩ B :=
  ⟨h.k, h.n, h.T, h.pos, h.nc, h.cm, h.es, h.nil, fun hz => by
    obtain ⟨cells, m1, m2, m3⟩ := h.mem hz
    exact ⟨cells, m1, m2, fun i cs j p hi hj => by obtain ⟨x, a, b, c⟩ := m3 i cs j p hi hj; exact ⟨x, a, b, rep00 c⟩⟩, fun _ h => by cases h⟩
theorem BlkRep.flat0 {w : World} {E : Env} {T : TK} {T0 : TypeId} {k : Nat} {es : List (List PV)} {B : Blk} (h : BlkRep w E ⟨T, k, es⟩ B) (hf : ∀ cs ∈ es, ∀ p ∈ cs, ∃ v, p = .v v) (hT : T.t = T0 := by rfl) : BlkRep w E00 ⟨T0, k, es⟩ B :=
  ⟨h.k, h.n, h.T.trans hT, h.pos, h.nc, h.cm, h.es, h.nil, fun hz => by
    obtain ⟨cells, m1, m2, m3⟩ := h.mem hz
    exact ⟨cells, m1, m2, fun i cs j p hi hj => by
      obtain ⟨x, a, b, c⟩ := m3 i cs j p hi hj
      obtain ⟨v, rfl⟩ := hf cs (List.mem_of_getElem? hi) p (List.mem_of_getElem? hj)
      obtain ⟨rfl, h1⟩ := c.v_inv
      exact ⟨x, a, b, .c (.v _ h1)⟩⟩, fun _ h => by cases h⟩
theorem BlkRep.keep0 {w w' : World} {T : TypeId} {k : Nat} {es : List (List PV)} {B : Blk} (h : BlkRep w E00 ⟨T, k, es⟩ B) (hh : B.z = false → w'.heap[B.b]? = w.heap[B.b]?) : BlkRep w' E00 ⟨T, k, es⟩ B :=
  ⟨h.k, h.n, h.T, h.pos, h.nc, h.cm, h.es, h.nil, fun hz => by
    obtain ⟨cells, m1, m2, m3⟩ := h.mem hz
    exact ⟨cells, (hh hz).trans m1, m2, fun i cs j p hi hj => by obtain ⟨x, a, b, c⟩ := m3 i cs j p hi hj; exact ⟨x, a, b, rep00 c⟩⟩, fun _ h => by cases h⟩
theorem CallM.mark {P : Program} {f : FuncId} {T : TypeId} {k : Nat} {es es' : List (List PV)} {k0 k1 : Int} (h : CallM P f [.ms 0, vi k0] [some ⟨T, k, es⟩] (vi k1) [some ⟨T, k, es'⟩]) (hf : ∀ cs ∈ es', ∀ p ∈ cs, ∃ v, p = .v v) {w : World} {B : Blk} (hB : BlkRep w E00 ⟨T, k, es⟩ B) (ht : Tab w (fun b => B.z = false ∧ b = B.b)) :
    Calls P f #[B.sv, I k0] w fun e w' => e = .returned (I k1) ∧ BlkRep w' E00 ⟨T, k, es'⟩ B ∧ UpO (fun b => B.z = false ∧ b = B.b) w w' := by
  have hO : ∀ b, own0 (fun l => if l = 0 then some B else none) b ↔ (B.z = false ∧ b = B.b) := fun b => by
    constructor
    · rintro ⟨l, B', h1, h2, rfl⟩
      by_cases hl : l = 0
      · simp only [hl, if_true, Option.some.injEq] at h1; subst h1; exact ⟨h2, rfl⟩
      · simp only [hl, if_false] at h1; cases h1
    · rintro ⟨h1, rfl⟩; exact ⟨0, B, rfl, h1, rfl⟩
  have eO : own0 (fun l => if l = 0 then some B else none) = fun b => B.z = false ∧ b = B.b := funext fun b => propext (hO b)
  have hlt : B.z = false → B.b < w.heap.size := fun hz => by
    obtain ⟨cells, m1, _⟩ := hB.mem hz
    exact (Array.getElem?_eq_some_iff.1 m1).1
  have b0 : ∀ {l : Nat} {B' : Blk}, (if l = 0 then some B else none) = some B' → l = 0 ∧ B' = B := fun {l B'} h => by
    by_cases hl : l = 0
    · simp only [hl, if_true, Option.some.injEq] at h; exact ⟨hl, h.symm⟩
    · simp only [hl, if_false] at h; cases h
  have hok : Ok w (own0 fun l => if l = 0 then some B else none) (E1 (fun _ => False) (fun l => if l = 0 then some B else none) 1) w [some ⟨T, k, es⟩] := by
    refine ⟨UpO.refl _ _, fun b h => h.elim, fun l B' h hz => ?_, fun l l' B1 B2 h1 h2 _ _ _ => ?_, fun l h => h, fun l B' h => ?_, fun l mb hm => ?_, fun l B' h => ?_, eO ▸ ht, fun _ _ h => h.elim⟩
    · obtain ⟨rfl, rfl⟩ := b0 h
      exact ⟨.inl ⟨0, _, h, hz, rfl⟩, hlt hz, fun h => h⟩
    · rw [(b0 h1).1, (b0 h2).1]
    · rw [(b0 h).1]; exact Nat.zero_lt_one
    · cases l with
      | succ l => simp at hm
      | zero =>
        obtain rfl : _ = mb := by simpa using hm
        exact ⟨B, rfl, hB.to0 _⟩
    · rw [(b0 h).1]; exact ⟨_, rfl⟩
  refine (h (fun _ => False) (fun l => if l = 0 then some B else none) w #[B.sv, I k0] (fun _ _ => False) hok rfl fun i p hp => ?_).mono ?_
  · match i, hp with
    | 0, hp =>
      obtain rfl := Option.some.inj hp
      exact ⟨_, rfl, .ms 0 _ Nat.zero_lt_one (by unfold Blk.sv; split <;> rfl) fun B' hB' => by
        have e : some B = some B' := hB'
        cases e
        rfl⟩
    | 1, hp => obtain rfl := Option.some.inj hp; exact ⟨_, rfl, .c (.v _ rfl)⟩
    | i + 2, hp => simp at hp
  · rintro e w' ⟨v, E', rfl, hk, _, _, ⟨hβ, _⟩, hr⟩
    obtain ⟨rfl, _⟩ := hr.v_inv
    refine ⟨rfl, ?_, eO ▸ hk.up⟩
    obtain ⟨B', h1, h2⟩ := hk.mem 0 _ rfl
    obtain ⟨_, rfl⟩ := b0 (hβ 0 B' Nat.zero_lt_one h1)
    exact h2.flat0 hf
theorem w64_in {n : Int} (h : -9223372036854775808 ≤ n ∧ n ≤ 9223372036854775807) : w64 n = n := IntWalk.i64_in n h
theorem w64_nat {i n : Nat} (hi : i < n) (hn : n ≤ 1152921504606846976) : w64 ((i : Int) + 1) = ((i + 1 : Nat) : Int) := by
  rw [w64_in (by omega)]; omega
theorem getI_nat {α : Type} {xs : List α} {i : Nat} : getI xs (i : Int) = xs[i]? := by
  unfold getI; rw [if_pos (by omega)]; simp
theorem chk_t {b : Bool} (h : b = true) : chk b = some () := by subst h; rfl
def runL {A α ο : Type} (F : Nat → A → α → Option (A ⊕ ο)) (E : A → Option ο) : Nat → List α → A → Option ο
  | _, [], a => E a
  | i, x :: xs, a => (F i a x).bind (selim (fun a' => runL F E (i + 1) xs a') some)
theorem iter_from {A α σ ο : Type} {xs : List α} {body : σ → Option (σ ⊕ ο)} {mk : A → Int → σ} {F : Nat → A → α → Option (A ⊕ ο)} {E : A → Option ο}
    (h1 : ∀ a (i : Nat) x, xs[i]? = some x → body (mk a i) = (F i a x).bind (selim (fun a' => some (.inl (mk a' ((i + 1 : Nat) : Int)))) (fun r => some (.inr r))))
    (h2 : ∀ a, body (mk a (xs.length : Int)) = (E a).bind fun r => some (.inr r)) :
    ∀ (ys : List α) (i : Nat) (N : Nat) (a : A), xs.drop i = ys → i ≤ xs.length → ys.length < N → iterF body N (mk a i) = runL F E i ys a
  | [], i, 0, a, _, _, hN => by omega
  | [], i, N + 1, a, hd, hi, hN => by
    have : i = xs.length := by have := congrArg List.length hd; simp at this; omega
    subst this
    simp only [iterF, runL, h2]
    cases E a <;> rfl
  | y :: ys, i, 0, a, _, _, hN => by simp at hN
  | y :: ys, i, N + 1, a, hd, hi, hN => by
    have hy : xs[i]? = some y := by
      have := congrArg (fun l => l[0]?) hd
      simpa using this
    have hlt : i < xs.length := (List.getElem?_eq_some_iff.1 hy).1
    have hd' : xs.drop (i + 1) = ys := by
      have := congrArg (List.drop 1) hd
      simpa [List.drop_drop] using this
    simp only [iterF, runL, h1 a i y hy]
    cases hF : F i a y with
    | none => rfl
    | some o =>
      cases o with
      | inl a' =>
        show iterF body N (mk a' ((i + 1 : Nat) : Int)) = runL F E (i + 1) ys a'
        exact iter_from h1 h2 ys (i + 1) N a' hd' hlt (by simp at hN; omega)
      | inr r => rfl
theorem iter_list {A α σ ο : Type} {xs : List α} {body : σ → Option (σ ⊕ ο)} {N : Nat} (mk : A → Int → σ) (F : Nat → A → α → Option (A ⊕ ο)) (E : A → Option ο)
    (h1 : ∀ a (i : Nat) x, xs[i]? = some x → body (mk a i) = (F i a x).bind (selim (fun a' => some (.inl (mk a' ((i + 1 : Nat) : Int)))) (fun r => some (.inr r))))
    (h2 : ∀ a, body (mk a (xs.length : Int)) = (E a).bind fun r => some (.inr r)) (hN : xs.length < N) (a : A) : iterF body N (mk a 0) = runL F E 0 xs a :=
  iter_from h1 h2 xs 0 N a rfl (Nat.zero_le _) hN
theorem runL_unit {α ο : Type} {o : ο} : ∀ (xs : List α) (i : Nat), runL (fun _ (_ : Unit) (_ : α) => some (.inl ())) (fun _ => some o) i xs () = some o
  | [], i => rfl
  | x :: xs, i => by simp only [runL]; exact runL_unit xs (i + 1)
theorem iter_tot {σ ο : Type} {body : σ → Option (σ ⊕ ο)} (I : Nat → σ → Prop) (hI : ∀ k s, I k s → ∃ o, body s = some o ∧ ∀ s', o = .inl s' → ∃ k', k' < k ∧ I k' s') : ∀ (N k : Nat) (s : σ), I k s → k < N → ∃ o, iterF body N s = some o
  | 0, k, s, _, hN => by omega
  | N + 1, k, s, h, hN => by
    obtain ⟨o, hb, hn⟩ := hI k s h
    simp only [iterF, hb]
    cases o with
    | inr r => exact ⟨r, rfl⟩
    | inl s' =>
      obtain ⟨k', hk, hi⟩ := hn s' rfl
      exact iter_tot I hI N k' s' hi (by omega)
theorem iter_pass {α ο : Type} {xs : List α} {body : Int → Option (Int ⊕ ο)} {o : ο} (h1 : ∀ (i : Nat) x, xs[i]? = some x → body (i : Int) = some (.inl ((i + 1 : Nat) : Int))) (h2 : body (xs.length : Int) = some (.inr o)) (hN : xs.length < NN) : iterF body NN 0 = some o := by
  refine (iter_list (A := Unit) (fun _ i => i) (fun _ _ _ => some (.inl ())) (fun _ => some o) ?_ ?_ hN ()).trans (runL_unit xs 0)
  · intro a i x hx; rw [h1 i x hx]; rfl
  · intro a; rw [h2]; rfl
theorem iter_check {ο : Type} {body : Int → Option (Int ⊕ ο)} {n : Nat} {c : Nat → Bool} {r e : ο} (h1 : ∀ i : Nat, i < n → (∀ j, j < i → c j = true) → body (i : Int) = some (if c i = true then .inl ((i + 1 : Nat) : Int) else .inr r)) (h2 : (∀ j, j < n → c j = true) → body (n : Int) = some (.inr e)) (hN : n < NN) :
    iterF body NN 0 = some (if (List.range n).all c = true then e else r) := by
  have key : ∀ (k i N : Nat), i + k = n → k < N → (∀ j, j < i → c j = true) → iterF body N (i : Int) = some (if (List.range n).all c = true then e else r) := by
    intro k
    induction k with
    | zero =>
      intro i N hi hk hj
      cases N with
      | zero => omega
      | succ N =>
        have : i = n := by omega
        subst this
        simp only [iterF, h2 hj]
        show some e = _
        rw [if_pos (List.all_eq_true.2 fun x hx => hj x (List.mem_range.1 hx))]
    | succ k ih =>
      intro i N hi hk hj
      cases N with
      | zero => omega
      | succ N =>
        simp only [iterF, h1 i (by omega) hj]
        by_cases hc : c i = true
        · rw [if_pos hc]
          exact ih (i + 1) N (by omega) (by omega) (fun j hj' => by
            rcases Nat.lt_or_ge j i with h | h
            · exact hj j h
            · have : j = i := by omega
              rw [this]; exact hc)
        · rw [if_neg hc]
          show some r = _
          rw [if_neg fun hall => hc (List.all_eq_true.1 hall i (List.mem_range.2 (by omega)))]
  exact key n 0 NN (by omega) hN (fun j hj => by omega)
theorem range_all {α : Type} (xs : List α) (p : α → Bool) (c : Nat → Bool) (h : ∀ i (hi : i < xs.length), c i = p xs[i]) : (List.range xs.length).all c = xs.all p := by
  rw [Bool.eq_iff_iff, List.all_eq_true, List.all_eq_true]
  constructor
  · intro H x hx
    obtain ⟨i, hi, rfl⟩ := List.getElem_of_mem hx
    rw [← h i hi]; exact H i (List.mem_range.2 hi)
  · intro H i hi
    have hi' := List.mem_range.1 hi
    rw [h i hi']; exact H _ (List.getElem_mem hi')
theorem iter_find {α ο : Type} {xs : List α} {body : Int → Option (Int ⊕ ο)} {p : α → Bool} {r e : ο} (h1 : ∀ i (hi : i < xs.length), body (i : Int) = some (if p xs[i] = true then .inr r else .inl ((i + 1 : Nat) : Int))) (h2 : body (xs.length : Int) = some (.inr e)) (hN : xs.length < NN) :
    iterF body NN 0 = some (if xs.any p = true then r else e) := by
  rw [iter_check (n := xs.length) (c := fun i => (xs[i]?.map fun x => !p x).getD true) (r := r) (e := e) (fun i hi _ => ?_) (fun _ => h2) hN, range_all xs (fun x => !p x) _ (fun i hi => by simp [hi])]
  · rw [List.all_eq_not_any_not]
    cases hb : xs.any p with
    | true => simp [hb]
    | false => simp [hb]
  · rw [h1 i hi]
    simp only [List.getElem?_eq_getElem hi, Option.map_some, Option.getD_some]
    cases p xs[i] <;> rfl
end Go.Proofs.YtkfbakhnpfmfmaaGreatDoor
