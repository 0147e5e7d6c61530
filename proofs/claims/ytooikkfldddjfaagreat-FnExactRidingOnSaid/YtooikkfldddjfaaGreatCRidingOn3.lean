/- A part of the proof of the statement in the last file of this claim: texts on the language of the program and on its functions. No condition. -/
import Derived.Test.YtooikkfldddjfaaGreatProg
import Derived.Test.YtooikkfldddjfaaGreatCRidingOn2
/- Facts on the types and functions of this seat, as_ the plain walk uses them (written by a program of my own). -/
namespace Go.Proofs.YtooikkfldddjfaaGreat
open Go.RowKit
set_option maxRecDepth 10000
attribute [go_sem] Tryz.underlying2
@[go_sem] theorem tc2 : Tryz.prog.cellsOf 2 = 1 := by kernel_rfl
@[go_sem] theorem tb2 : Tryz.prog.bytesOf 2 = 8 := by kernel_rfl
@[go_sem] theorem tz2 : pz Tryz.prog 2 = some [.v (.int .i64 0)] := by kernel_rfl
attribute [go_sem] Tryz.underlying3
@[go_sem] theorem tc3 : Tryz.prog.cellsOf 3 = 1 := by kernel_rfl
@[go_sem] theorem tb3 : Tryz.prog.bytesOf 3 = 8 := by kernel_rfl
@[go_sem] theorem tz3 : pz Tryz.prog 3 = some [.v (.int .i64 0)] := by kernel_rfl
attribute [go_sem] Tryz.underlying4
@[go_sem] theorem tc4 : Tryz.prog.cellsOf 4 = 1 := by kernel_rfl
@[go_sem] theorem tb4 : Tryz.prog.bytesOf 4 = 1 := by kernel_rfl
@[go_sem] theorem tz4 : pz Tryz.prog 4 = some [.v (.bool false)] := by kernel_rfl
attribute [go_sem] Tryz.underlying5
@[go_sem] theorem tc5 : Tryz.prog.cellsOf 5 = 1 := by kernel_rfl
@[go_sem] theorem tb5 : Tryz.prog.bytesOf 5 = 1 := by kernel_rfl
@[go_sem] theorem tz5 : pz Tryz.prog 5 = some [.v (.int .u8 0)] := by kernel_rfl
attribute [go_sem] Tryz.underlying9
@[go_sem] theorem tc9 : Tryz.prog.cellsOf 9 = 1 := by kernel_rfl
@[go_sem] theorem tb9 : Tryz.prog.bytesOf 9 = 16 := by kernel_rfl
@[go_sem] theorem tz9 : pz Tryz.prog 9 = some [.v (.string ⟨#[]⟩)] := by kernel_rfl
attribute [go_sem] Tryz.underlying12
@[go_sem] theorem tc12 : Tryz.prog.cellsOf 12 = 1 := by kernel_rfl
@[go_sem] theorem tb12 : Tryz.prog.bytesOf 12 = 8 := by kernel_rfl
@[go_sem] theorem tz12 : pz Tryz.prog 12 = some [.v (.int .u64 0)] := by kernel_rfl
attribute [go_sem] Tryz.underlying21
@[go_sem] theorem tc21 : Tryz.prog.cellsOf 21 = 1 := by kernel_rfl
@[go_sem] theorem tb21 : Tryz.prog.bytesOf 21 = 4 := by kernel_rfl
@[go_sem] theorem tz21 : pz Tryz.prog 21 = some [.v (.int .i32 0)] := by kernel_rfl
attribute [go_sem] Tryz.underlying22
@[go_sem] theorem tc22 : Tryz.prog.cellsOf 22 = 1 := by kernel_rfl
@[go_sem] theorem tb22 : Tryz.prog.bytesOf 22 = 24 := by kernel_rfl
@[go_sem] theorem tz22 : pz Tryz.prog 22 = some [.v (.slice none 0 0)] := by kernel_rfl
@[go_sem] theorem tk22 : elemK Tryz.prog 22 = 6 := by kernel_rfl
attribute [go_sem] Tryz.underlying23
@[go_sem] theorem tc23 : Tryz.prog.cellsOf 23 = 1 := by kernel_rfl
@[go_sem] theorem tb23 : Tryz.prog.bytesOf 23 = 24 := by kernel_rfl
@[go_sem] theorem tz23 : pz Tryz.prog 23 = some [.v (.slice none 0 0)] := by kernel_rfl
@[go_sem] theorem tk23 : elemK Tryz.prog 23 = 1 := by kernel_rfl
attribute [go_sem] Tryz.underlying24
@[go_sem] theorem tc24 : Tryz.prog.cellsOf 24 = 3 := by kernel_rfl
@[go_sem] theorem tb24 : Tryz.prog.bytesOf 24 = 56 := by kernel_rfl
@[go_sem] theorem tz24 : pz Tryz.prog 24 = some [.v (.slice none 0 0), .v (.slice none 0 0), .v (.int .i64 0)] := by kernel_rfl
@[go_sem] theorem te24 : Tryz.prog.eqGuardType Tryz.prog.depth 24 = false := by kernel_rfl
@[go_sem] theorem ts24 : Tryz.prog.stoodInHeld 24 = false := by kernel_rfl
attribute [go_sem] Tryz.underlying25
@[go_sem] theorem tc25 : Tryz.prog.cellsOf 25 = 3 := by kernel_rfl
@[go_sem] theorem tb25 : Tryz.prog.bytesOf 25 = 56 := by kernel_rfl
@[go_sem] theorem tz25 : pz Tryz.prog 25 = some [.v (.slice none 0 0), .v (.slice none 0 0), .v (.int .i64 0)] := by kernel_rfl
@[go_sem] theorem te25 : Tryz.prog.eqGuardType Tryz.prog.depth 25 = false := by kernel_rfl
@[go_sem] theorem ts25 : Tryz.prog.stoodInHeld 25 = false := by kernel_rfl
attribute [go_sem] Tryz.underlying26
@[go_sem] theorem tc26 : Tryz.prog.cellsOf 26 = 1 := by kernel_rfl
@[go_sem] theorem tb26 : Tryz.prog.bytesOf 26 = 24 := by kernel_rfl
@[go_sem] theorem tz26 : pz Tryz.prog 26 = some [.v (.slice none 0 0)] := by kernel_rfl
@[go_sem] theorem tk26 : elemK Tryz.prog 26 = 11 := by kernel_rfl
attribute [go_sem] Tryz.underlying27
@[go_sem] theorem tc27 : Tryz.prog.cellsOf 27 = 1 := by kernel_rfl
@[go_sem] theorem tb27 : Tryz.prog.bytesOf 27 = 24 := by kernel_rfl
@[go_sem] theorem tz27 : pz Tryz.prog 27 = some [.v (.slice none 0 0)] := by kernel_rfl
@[go_sem] theorem tk27 : elemK Tryz.prog 27 = 4 := by kernel_rfl
attribute [go_sem] Tryz.underlying28
@[go_sem] theorem tc28 : Tryz.prog.cellsOf 28 = 1 := by kernel_rfl
@[go_sem] theorem tb28 : Tryz.prog.bytesOf 28 = 24 := by kernel_rfl
@[go_sem] theorem tz28 : pz Tryz.prog 28 = some [.v (.slice none 0 0)] := by kernel_rfl
@[go_sem] theorem tk28 : elemK Tryz.prog 28 = 2 := by kernel_rfl
attribute [go_sem] Tryz.underlying29
@[go_sem] theorem tc29 : Tryz.prog.cellsOf 29 = 1 := by kernel_rfl
@[go_sem] theorem tb29 : Tryz.prog.bytesOf 29 = 24 := by kernel_rfl
@[go_sem] theorem tz29 : pz Tryz.prog 29 = some [.v (.slice none 0 0)] := by kernel_rfl
@[go_sem] theorem tk29 : elemK Tryz.prog 29 = 6 := by kernel_rfl
attribute [go_sem] Tryz.underlying30
@[go_sem] theorem tc30 : Tryz.prog.cellsOf 30 = 10 := by kernel_rfl
@[go_sem] theorem tb30 : Tryz.prog.bytesOf 30 = 192 := by kernel_rfl
@[go_sem] theorem tz30 : pz Tryz.prog 30 = some [.v (.slice none 0 0), .v (.slice none 0 0), .v (.int .i64 0), .v (.slice none 0 0), .v (.slice none 0 0), .v (.slice none 0 0), .v (.int .i64 0), .v (.slice none 0 0), .v (.slice none 0 0), .v (.int .i64 0)] := by kernel_rfl
@[go_sem] theorem te30 : Tryz.prog.eqGuardType Tryz.prog.depth 30 = false := by kernel_rfl
@[go_sem] theorem ts30 : Tryz.prog.stoodInHeld 30 = false := by kernel_rfl
attribute [go_sem] Tryz.underlying31
@[go_sem] theorem tc31 : Tryz.prog.cellsOf 31 = 10 := by kernel_rfl
@[go_sem] theorem tb31 : Tryz.prog.bytesOf 31 = 192 := by kernel_rfl
@[go_sem] theorem tz31 : pz Tryz.prog 31 = some [.v (.slice none 0 0), .v (.slice none 0 0), .v (.int .i64 0), .v (.slice none 0 0), .v (.slice none 0 0), .v (.slice none 0 0), .v (.int .i64 0), .v (.slice none 0 0), .v (.slice none 0 0), .v (.int .i64 0)] := by kernel_rfl
@[go_sem] theorem te31 : Tryz.prog.eqGuardType Tryz.prog.depth 31 = false := by kernel_rfl
@[go_sem] theorem ts31 : Tryz.prog.stoodInHeld 31 = false := by kernel_rfl
attribute [go_sem] Tryz.underlying34
@[go_sem] theorem tc34 : Tryz.prog.cellsOf 34 = 1 := by kernel_rfl
@[go_sem] theorem tb34 : Tryz.prog.bytesOf 34 = 24 := by kernel_rfl
@[go_sem] theorem tz34 : pz Tryz.prog 34 = some [.v (.slice none 0 0)] := by kernel_rfl
@[go_sem] theorem tk34 : elemK Tryz.prog 34 = 6 := by kernel_rfl
attribute [go_sem] Tryz.underlying35
@[go_sem] theorem tc35 : Tryz.prog.cellsOf 35 = 3 := by kernel_rfl
@[go_sem] theorem tb35 : Tryz.prog.bytesOf 35 = 56 := by kernel_rfl
@[go_sem] theorem tz35 : pz Tryz.prog 35 = some [.v (.slice none 0 0), .v (.slice none 0 0), .v (.int .i64 0)] := by kernel_rfl
@[go_sem] theorem te35 : Tryz.prog.eqGuardType Tryz.prog.depth 35 = false := by kernel_rfl
@[go_sem] theorem ts35 : Tryz.prog.stoodInHeld 35 = false := by kernel_rfl
attribute [go_sem] Tryz.underlying36
@[go_sem] theorem tc36 : Tryz.prog.cellsOf 36 = 3 := by kernel_rfl
@[go_sem] theorem tb36 : Tryz.prog.bytesOf 36 = 56 := by kernel_rfl
@[go_sem] theorem tz36 : pz Tryz.prog 36 = some [.v (.slice none 0 0), .v (.slice none 0 0), .v (.int .i64 0)] := by kernel_rfl
@[go_sem] theorem te36 : Tryz.prog.eqGuardType Tryz.prog.depth 36 = false := by kernel_rfl
@[go_sem] theorem ts36 : Tryz.prog.stoodInHeld 36 = false := by kernel_rfl
attribute [go_sem] Tryz.underlying37
@[go_sem] theorem tc37 : Tryz.prog.cellsOf 37 = 1 := by kernel_rfl
@[go_sem] theorem tb37 : Tryz.prog.bytesOf 37 = 24 := by kernel_rfl
@[go_sem] theorem tz37 : pz Tryz.prog 37 = some [.v (.slice none 0 0)] := by kernel_rfl
@[go_sem] theorem tk37 : elemK Tryz.prog 37 = 11 := by kernel_rfl
attribute [go_sem] Tryz.underlying38
@[go_sem] theorem tc38 : Tryz.prog.cellsOf 38 = 1 := by kernel_rfl
@[go_sem] theorem tb38 : Tryz.prog.bytesOf 38 = 24 := by kernel_rfl
@[go_sem] theorem tz38 : pz Tryz.prog 38 = some [.v (.slice none 0 0)] := by kernel_rfl
@[go_sem] theorem tk38 : elemK Tryz.prog 38 = 4 := by kernel_rfl
attribute [go_sem] Tryz.underlying39
@[go_sem] theorem tc39 : Tryz.prog.cellsOf 39 = 1 := by kernel_rfl
@[go_sem] theorem tb39 : Tryz.prog.bytesOf 39 = 24 := by kernel_rfl
@[go_sem] theorem tz39 : pz Tryz.prog 39 = some [.v (.slice none 0 0)] := by kernel_rfl
@[go_sem] theorem tk39 : elemK Tryz.prog 39 = 2 := by kernel_rfl
attribute [go_sem] Tryz.underlying40
@[go_sem] theorem tc40 : Tryz.prog.cellsOf 40 = 1 := by kernel_rfl
@[go_sem] theorem tb40 : Tryz.prog.bytesOf 40 = 24 := by kernel_rfl
@[go_sem] theorem tz40 : pz Tryz.prog 40 = some [.v (.slice none 0 0)] := by kernel_rfl
@[go_sem] theorem tk40 : elemK Tryz.prog 40 = 6 := by kernel_rfl
attribute [go_sem] Tryz.underlying41
@[go_sem] theorem tc41 : Tryz.prog.cellsOf 41 = 10 := by kernel_rfl
@[go_sem] theorem tb41 : Tryz.prog.bytesOf 41 = 192 := by kernel_rfl
@[go_sem] theorem tz41 : pz Tryz.prog 41 = some [.v (.slice none 0 0), .v (.slice none 0 0), .v (.int .i64 0), .v (.slice none 0 0), .v (.slice none 0 0), .v (.slice none 0 0), .v (.int .i64 0), .v (.slice none 0 0), .v (.slice none 0 0), .v (.int .i64 0)] := by kernel_rfl
@[go_sem] theorem te41 : Tryz.prog.eqGuardType Tryz.prog.depth 41 = false := by kernel_rfl
@[go_sem] theorem ts41 : Tryz.prog.stoodInHeld 41 = false := by kernel_rfl
attribute [go_sem] Tryz.underlying42
@[go_sem] theorem tc42 : Tryz.prog.cellsOf 42 = 10 := by kernel_rfl
@[go_sem] theorem tb42 : Tryz.prog.bytesOf 42 = 192 := by kernel_rfl
@[go_sem] theorem tz42 : pz Tryz.prog 42 = some [.v (.slice none 0 0), .v (.slice none 0 0), .v (.int .i64 0), .v (.slice none 0 0), .v (.slice none 0 0), .v (.slice none 0 0), .v (.int .i64 0), .v (.slice none 0 0), .v (.slice none 0 0), .v (.int .i64 0)] := by kernel_rfl
@[go_sem] theorem te42 : Tryz.prog.eqGuardType Tryz.prog.depth 42 = false := by kernel_rfl
@[go_sem] theorem ts42 : Tryz.prog.stoodInHeld 42 = false := by kernel_rfl
attribute [go_sem] Tryz.underlying54
@[go_sem] theorem tc54 : Tryz.prog.cellsOf 54 = 2 := by kernel_rfl
@[go_sem] theorem tb54 : Tryz.prog.bytesOf 54 = 16 := by kernel_rfl
@[go_sem] theorem tz54 : pz Tryz.prog 54 = some [.v (.int .i64 0), .v (.int .i64 0)] := by kernel_rfl
@[go_sem] theorem te54 : Tryz.prog.eqGuardType Tryz.prog.depth 54 = false := by kernel_rfl
@[go_sem] theorem ts54 : Tryz.prog.stoodInHeld 54 = false := by kernel_rfl
attribute [go_sem] Tryz.underlying55
@[go_sem] theorem tc55 : Tryz.prog.cellsOf 55 = 2 := by kernel_rfl
@[go_sem] theorem tb55 : Tryz.prog.bytesOf 55 = 16 := by kernel_rfl
@[go_sem] theorem tz55 : pz Tryz.prog 55 = some [.v (.int .i64 0), .v (.int .i64 0)] := by kernel_rfl
@[go_sem] theorem te55 : Tryz.prog.eqGuardType Tryz.prog.depth 55 = false := by kernel_rfl
@[go_sem] theorem ts55 : Tryz.prog.stoodInHeld 55 = false := by kernel_rfl
attribute [go_sem] Tryz.underlying57
@[go_sem] theorem tc57 : Tryz.prog.cellsOf 57 = 2 := by kernel_rfl
@[go_sem] theorem tb57 : Tryz.prog.bytesOf 57 = 16 := by kernel_rfl
@[go_sem] theorem tz57 : pz Tryz.prog 57 = some [.v (.int .i64 0), .v (.int .i64 0)] := by kernel_rfl
@[go_sem] theorem te57 : Tryz.prog.eqGuardType Tryz.prog.depth 57 = false := by kernel_rfl
@[go_sem] theorem ts57 : Tryz.prog.stoodInHeld 57 = false := by kernel_rfl
attribute [go_sem] Tryz.underlying77
@[go_sem] theorem tc77 : Tryz.prog.cellsOf 77 = 6 := by kernel_rfl
@[go_sem] theorem tb77 : Tryz.prog.bytesOf 77 = 56 := by kernel_rfl
@[go_sem] theorem tz77 : pz Tryz.prog 77 = some [.v (.int .i64 0), .v (.int .i64 0), .v (.int .i64 0), .v (.string ⟨#[]⟩), .v (.int .i64 0), .v (.int .i64 0)] := by kernel_rfl
@[go_sem] theorem te77 : Tryz.prog.eqGuardType Tryz.prog.depth 77 = false := by kernel_rfl
@[go_sem] theorem ts77 : Tryz.prog.stoodInHeld 77 = false := by kernel_rfl
attribute [go_sem] Tryz.underlying78
@[go_sem] theorem tc78 : Tryz.prog.cellsOf 78 = 6 := by kernel_rfl
@[go_sem] theorem tb78 : Tryz.prog.bytesOf 78 = 56 := by kernel_rfl
@[go_sem] theorem tz78 : pz Tryz.prog 78 = some [.v (.int .i64 0), .v (.int .i64 0), .v (.int .i64 0), .v (.string ⟨#[]⟩), .v (.int .i64 0), .v (.int .i64 0)] := by kernel_rfl
@[go_sem] theorem te78 : Tryz.prog.eqGuardType Tryz.prog.depth 78 = false := by kernel_rfl
@[go_sem] theorem ts78 : Tryz.prog.stoodInHeld 78 = false := by kernel_rfl
attribute [go_sem] Tryz.underlying80
@[go_sem] theorem tc80 : Tryz.prog.cellsOf 80 = 11 := by kernel_rfl
@[go_sem] theorem tb80 : Tryz.prog.bytesOf 80 = 128 := by kernel_rfl
@[go_sem] theorem tz80 : pz Tryz.prog 80 = some [.v (.string ⟨#[]⟩), .v (.string ⟨#[]⟩), .v (.int .i64 0), .v (.int .i64 0), .v (.int .i64 0), .v (.int .i64 0), .v (.slice none 0 0), .v (.int .i64 0), .v (.int .i64 0), .v (.string ⟨#[]⟩), .v (.int .i64 0)] := by kernel_rfl
@[go_sem] theorem te80 : Tryz.prog.eqGuardType Tryz.prog.depth 80 = false := by kernel_rfl
@[go_sem] theorem ts80 : Tryz.prog.stoodInHeld 80 = false := by kernel_rfl
attribute [go_sem] Tryz.underlying81
@[go_sem] theorem tc81 : Tryz.prog.cellsOf 81 = 11 := by kernel_rfl
@[go_sem] theorem tb81 : Tryz.prog.bytesOf 81 = 128 := by kernel_rfl
@[go_sem] theorem tz81 : pz Tryz.prog 81 = some [.v (.string ⟨#[]⟩), .v (.string ⟨#[]⟩), .v (.int .i64 0), .v (.int .i64 0), .v (.int .i64 0), .v (.int .i64 0), .v (.slice none 0 0), .v (.int .i64 0), .v (.int .i64 0), .v (.string ⟨#[]⟩), .v (.int .i64 0)] := by kernel_rfl
@[go_sem] theorem te81 : Tryz.prog.eqGuardType Tryz.prog.depth 81 = false := by kernel_rfl
@[go_sem] theorem ts81 : Tryz.prog.stoodInHeld 81 = false := by kernel_rfl
attribute [go_sem] Tryz.underlying87
@[go_sem] theorem tc87 : Tryz.prog.cellsOf 87 = 1 := by kernel_rfl
@[go_sem] theorem tb87 : Tryz.prog.bytesOf 87 = 24 := by kernel_rfl
@[go_sem] theorem tz87 : pz Tryz.prog 87 = some [.v (.slice none 0 0)] := by kernel_rfl
@[go_sem] theorem tk87 : elemK Tryz.prog 87 = 1 := by kernel_rfl
attribute [go_sem] Tryz.underlying107
@[go_sem] theorem tc107 : Tryz.prog.cellsOf 107 = 11 := by kernel_rfl
@[go_sem] theorem tb107 : Tryz.prog.bytesOf 107 = 128 := by kernel_rfl
@[go_sem] theorem tz107 : pz Tryz.prog 107 = some [.v (.string ⟨#[]⟩), .v (.string ⟨#[]⟩), .v (.int .i64 0), .v (.int .i64 0), .v (.int .i64 0), .v (.int .i64 0), .v (.slice none 0 0), .v (.int .i64 0), .v (.int .i64 0), .v (.string ⟨#[]⟩), .v (.int .i64 0)] := by kernel_rfl
@[go_sem] theorem te107 : Tryz.prog.eqGuardType Tryz.prog.depth 107 = false := by kernel_rfl
@[go_sem] theorem ts107 : Tryz.prog.stoodInHeld 107 = false := by kernel_rfl
attribute [go_sem] Tryz.underlying108
@[go_sem] theorem tc108 : Tryz.prog.cellsOf 108 = 11 := by kernel_rfl
@[go_sem] theorem tb108 : Tryz.prog.bytesOf 108 = 128 := by kernel_rfl
@[go_sem] theorem tz108 : pz Tryz.prog 108 = some [.v (.string ⟨#[]⟩), .v (.string ⟨#[]⟩), .v (.int .i64 0), .v (.int .i64 0), .v (.int .i64 0), .v (.int .i64 0), .v (.slice none 0 0), .v (.int .i64 0), .v (.int .i64 0), .v (.string ⟨#[]⟩), .v (.int .i64 0)] := by kernel_rfl
@[go_sem] theorem te108 : Tryz.prog.eqGuardType Tryz.prog.depth 108 = false := by kernel_rfl
@[go_sem] theorem ts108 : Tryz.prog.stoodInHeld 108 = false := by kernel_rfl
attribute [go_sem] Tryz.underlying110
@[go_sem] theorem tc110 : Tryz.prog.cellsOf 110 = 6 := by kernel_rfl
@[go_sem] theorem tb110 : Tryz.prog.bytesOf 110 = 56 := by kernel_rfl
@[go_sem] theorem tz110 : pz Tryz.prog 110 = some [.v (.int .i64 0), .v (.int .i64 0), .v (.int .i64 0), .v (.string ⟨#[]⟩), .v (.int .i64 0), .v (.int .i64 0)] := by kernel_rfl
@[go_sem] theorem te110 : Tryz.prog.eqGuardType Tryz.prog.depth 110 = false := by kernel_rfl
@[go_sem] theorem ts110 : Tryz.prog.stoodInHeld 110 = false := by kernel_rfl
attribute [go_sem] Tryz.underlying111
@[go_sem] theorem tc111 : Tryz.prog.cellsOf 111 = 6 := by kernel_rfl
@[go_sem] theorem tb111 : Tryz.prog.bytesOf 111 = 56 := by kernel_rfl
@[go_sem] theorem tz111 : pz Tryz.prog 111 = some [.v (.int .i64 0), .v (.int .i64 0), .v (.int .i64 0), .v (.string ⟨#[]⟩), .v (.int .i64 0), .v (.int .i64 0)] := by kernel_rfl
@[go_sem] theorem te111 : Tryz.prog.eqGuardType Tryz.prog.depth 111 = false := by kernel_rfl
@[go_sem] theorem ts111 : Tryz.prog.stoodInHeld 111 = false := by kernel_rfl
attribute [go_sem] Tryz.underlying113
@[go_sem] theorem tc113 : Tryz.prog.cellsOf 113 = 4 := by kernel_rfl
@[go_sem] theorem tb113 : Tryz.prog.bytesOf 113 = 32 := by kernel_rfl
@[go_sem] theorem tz113 : pz Tryz.prog 113 = some [.v (.int .i64 0), .v (.int .i64 0), .v (.int .i64 0), .v (.int .i64 0)] := by kernel_rfl
@[go_sem] theorem te113 : Tryz.prog.eqGuardType Tryz.prog.depth 113 = false := by kernel_rfl
@[go_sem] theorem ts113 : Tryz.prog.stoodInHeld 113 = false := by kernel_rfl
attribute [go_sem] Tryz.underlying114
@[go_sem] theorem tc114 : Tryz.prog.cellsOf 114 = 4 := by kernel_rfl
@[go_sem] theorem tb114 : Tryz.prog.bytesOf 114 = 32 := by kernel_rfl
@[go_sem] theorem tz114 : pz Tryz.prog 114 = some [.v (.int .i64 0), .v (.int .i64 0), .v (.int .i64 0), .v (.int .i64 0)] := by kernel_rfl
@[go_sem] theorem te114 : Tryz.prog.eqGuardType Tryz.prog.depth 114 = false := by kernel_rfl
@[go_sem] theorem ts114 : Tryz.prog.stoodInHeld 114 = false := by kernel_rfl
attribute [go_sem] Tryz.underlying117
@[go_sem] theorem tc117 : Tryz.prog.cellsOf 117 = 6 := by kernel_rfl
@[go_sem] theorem tb117 : Tryz.prog.bytesOf 117 = 64 := by kernel_rfl
@[go_sem] theorem tz117 : pz Tryz.prog 117 = some [.v (.string ⟨#[]⟩), .v (.string ⟨#[]⟩), .v (.int .i64 0), .v (.int .i64 0), .v (.int .i64 0), .v (.int .i64 0)] := by kernel_rfl
@[go_sem] theorem te117 : Tryz.prog.eqGuardType Tryz.prog.depth 117 = false := by kernel_rfl
@[go_sem] theorem ts117 : Tryz.prog.stoodInHeld 117 = false := by kernel_rfl
attribute [go_sem] Tryz.underlying118
@[go_sem] theorem tc118 : Tryz.prog.cellsOf 118 = 6 := by kernel_rfl
@[go_sem] theorem tb118 : Tryz.prog.bytesOf 118 = 64 := by kernel_rfl
@[go_sem] theorem tz118 : pz Tryz.prog 118 = some [.v (.string ⟨#[]⟩), .v (.string ⟨#[]⟩), .v (.int .i64 0), .v (.int .i64 0), .v (.int .i64 0), .v (.int .i64 0)] := by kernel_rfl
@[go_sem] theorem te118 : Tryz.prog.eqGuardType Tryz.prog.depth 118 = false := by kernel_rfl
@[go_sem] theorem ts118 : Tryz.prog.stoodInHeld 118 = false := by kernel_rfl
attribute [go_sem] Tryz.underlying127
@[go_sem] theorem tc127 : Tryz.prog.cellsOf 127 = 4 := by kernel_rfl
@[go_sem] theorem tb127 : Tryz.prog.bytesOf 127 = 32 := by kernel_rfl
@[go_sem] theorem tz127 : pz Tryz.prog 127 = some [.v (.int .i64 0), .v (.int .i64 0), .v (.int .i64 0), .v (.int .i64 0)] := by kernel_rfl
@[go_sem] theorem te127 : Tryz.prog.eqGuardType Tryz.prog.depth 127 = false := by kernel_rfl
@[go_sem] theorem ts127 : Tryz.prog.stoodInHeld 127 = false := by kernel_rfl
attribute [go_sem] Tryz.underlying128
@[go_sem] theorem tc128 : Tryz.prog.cellsOf 128 = 4 := by kernel_rfl
@[go_sem] theorem tb128 : Tryz.prog.bytesOf 128 = 32 := by kernel_rfl
@[go_sem] theorem tz128 : pz Tryz.prog 128 = some [.v (.int .i64 0), .v (.int .i64 0), .v (.int .i64 0), .v (.int .i64 0)] := by kernel_rfl
@[go_sem] theorem te128 : Tryz.prog.eqGuardType Tryz.prog.depth 128 = false := by kernel_rfl
@[go_sem] theorem ts128 : Tryz.prog.stoodInHeld 128 = false := by kernel_rfl
attribute [go_sem] Tryz.underlying141
@[go_sem] theorem tc141 : Tryz.prog.cellsOf 141 = 6 := by kernel_rfl
@[go_sem] theorem tb141 : Tryz.prog.bytesOf 141 = 64 := by kernel_rfl
@[go_sem] theorem tz141 : pz Tryz.prog 141 = some [.v (.string ⟨#[]⟩), .v (.string ⟨#[]⟩), .v (.int .i64 0), .v (.int .i64 0), .v (.int .i64 0), .v (.int .i64 0)] := by kernel_rfl
@[go_sem] theorem te141 : Tryz.prog.eqGuardType Tryz.prog.depth 141 = false := by kernel_rfl
@[go_sem] theorem ts141 : Tryz.prog.stoodInHeld 141 = false := by kernel_rfl
attribute [go_sem] Tryz.underlying148
@[go_sem] theorem tc148 : Tryz.prog.cellsOf 148 = 1 := by kernel_rfl
@[go_sem] theorem tb148 : Tryz.prog.bytesOf 148 = 24 := by kernel_rfl
@[go_sem] theorem tz148 : pz Tryz.prog 148 = some [.v (.slice none 0 0)] := by kernel_rfl
@[go_sem] theorem tk148 : elemK Tryz.prog 148 = 1 := by kernel_rfl
attribute [go_sem] Tryz.underlying152
@[go_sem] theorem tc152 : Tryz.prog.cellsOf 152 = 1 := by kernel_rfl
@[go_sem] theorem tb152 : Tryz.prog.bytesOf 152 = 8 := by kernel_rfl
@[go_sem] theorem tz152 : pz Tryz.prog 152 = some [.v (.int .u64 0)] := by kernel_rfl
attribute [go_sem] Tryz.underlying163
@[go_sem] theorem tc163 : Tryz.prog.cellsOf 163 = 1 := by kernel_rfl
@[go_sem] theorem tb163 : Tryz.prog.bytesOf 163 = 4 := by kernel_rfl
@[go_sem] theorem tz163 : pz Tryz.prog 163 = some [.v (.int .u32 0)] := by kernel_rfl
attribute [go_sem] Tryz.underlying165
@[go_sem] theorem tc165 : Tryz.prog.cellsOf 165 = 1 := by kernel_rfl
@[go_sem] theorem tb165 : Tryz.prog.bytesOf 165 = 8 := by kernel_rfl
@[go_sem] theorem tz165 : pz Tryz.prog 165 = some [.v (.int .u64 0)] := by kernel_rfl
@[go_sem] theorem fn3 : isFn Tryz.prog 3 := ⟨_, Tryz.func3, rfl, by kernel_rfl⟩
@[go_sem] theorem fn4 : isFn Tryz.prog 4 := ⟨_, Tryz.func4, rfl, by kernel_rfl⟩
@[go_sem] theorem fn5 : isFn Tryz.prog 5 := ⟨_, Tryz.func5, rfl, by kernel_rfl⟩
@[go_sem] theorem fn6 : isFn Tryz.prog 6 := ⟨_, Tryz.func6, rfl, by kernel_rfl⟩
@[go_sem] theorem fn7 : isFn Tryz.prog 7 := ⟨_, Tryz.func7, rfl, by kernel_rfl⟩
@[go_sem] theorem fn8 : isFn Tryz.prog 8 := ⟨_, Tryz.func8, rfl, by kernel_rfl⟩
@[go_sem] theorem fn9 : isFn Tryz.prog 9 := ⟨_, Tryz.func9, rfl, by kernel_rfl⟩
@[go_sem] theorem fn10 : isFn Tryz.prog 10 := ⟨_, Tryz.func10, rfl, by kernel_rfl⟩
@[go_sem] theorem fn11 : isFn Tryz.prog 11 := ⟨_, Tryz.func11, rfl, by kernel_rfl⟩
@[go_sem] theorem fn12 : isFn Tryz.prog 12 := ⟨_, Tryz.func12, rfl, by kernel_rfl⟩
@[go_sem] theorem fn13 : isFn Tryz.prog 13 := ⟨_, Tryz.func13, rfl, by kernel_rfl⟩
@[go_sem] theorem fn14 : isFn Tryz.prog 14 := ⟨_, Tryz.func14, rfl, by kernel_rfl⟩
@[go_sem] theorem fn15 : isFn Tryz.prog 15 := ⟨_, Tryz.func15, rfl, by kernel_rfl⟩
@[go_sem] theorem fn16 : isFn Tryz.prog 16 := ⟨_, Tryz.func16, rfl, by kernel_rfl⟩
@[go_sem] theorem fn17 : isFn Tryz.prog 17 := ⟨_, Tryz.func17, rfl, by kernel_rfl⟩
@[go_sem] theorem fn18 : isFn Tryz.prog 18 := ⟨_, Tryz.func18, rfl, by kernel_rfl⟩
@[go_sem] theorem fn19 : isFn Tryz.prog 19 := ⟨_, Tryz.func19, rfl, by kernel_rfl⟩
@[go_sem] theorem fn20 : isFn Tryz.prog 20 := ⟨_, Tryz.func20, rfl, by kernel_rfl⟩
@[go_sem] theorem fn21 : isFn Tryz.prog 21 := ⟨_, Tryz.func21, rfl, by kernel_rfl⟩
@[go_sem] theorem fn22 : isFn Tryz.prog 22 := ⟨_, Tryz.func22, rfl, by kernel_rfl⟩
@[go_sem] theorem fn23 : isFn Tryz.prog 23 := ⟨_, Tryz.func23, rfl, by kernel_rfl⟩
@[go_sem] theorem fn24 : isFn Tryz.prog 24 := ⟨_, Tryz.func24, rfl, by kernel_rfl⟩
@[go_sem] theorem fn25 : isFn Tryz.prog 25 := ⟨_, Tryz.func25, rfl, by kernel_rfl⟩
@[go_sem] theorem fn26 : isFn Tryz.prog 26 := ⟨_, Tryz.func26, rfl, by kernel_rfl⟩
@[go_sem] theorem fn27 : isFn Tryz.prog 27 := ⟨_, Tryz.func27, rfl, by kernel_rfl⟩
@[go_sem] theorem fn28 : isFn Tryz.prog 28 := ⟨_, Tryz.func28, rfl, by kernel_rfl⟩
@[go_sem] theorem fn29 : isFn Tryz.prog 29 := ⟨_, Tryz.func29, rfl, by kernel_rfl⟩
@[go_sem] theorem fn30 : isFn Tryz.prog 30 := ⟨_, Tryz.func30, rfl, by kernel_rfl⟩
@[go_sem] theorem fn31 : isFn Tryz.prog 31 := ⟨_, Tryz.func31, rfl, by kernel_rfl⟩
@[go_sem] theorem fn32 : isFn Tryz.prog 32 := ⟨_, Tryz.func32, rfl, by kernel_rfl⟩
@[go_sem] theorem fn33 : isFn Tryz.prog 33 := ⟨_, Tryz.func33, rfl, by kernel_rfl⟩
@[go_sem] theorem fn34 : isFn Tryz.prog 34 := ⟨_, Tryz.func34, rfl, by kernel_rfl⟩
@[go_sem] theorem fn35 : isFn Tryz.prog 35 := ⟨_, Tryz.func35, rfl, by kernel_rfl⟩
@[go_sem] theorem fn36 : isFn Tryz.prog 36 := ⟨_, Tryz.func36, rfl, by kernel_rfl⟩
@[go_sem] theorem fn37 : isFn Tryz.prog 37 := ⟨_, Tryz.func37, rfl, by kernel_rfl⟩
@[go_sem] theorem fn38 : isFn Tryz.prog 38 := ⟨_, Tryz.func38, rfl, by kernel_rfl⟩
@[go_sem] theorem fn39 : isFn Tryz.prog 39 := ⟨_, Tryz.func39, rfl, by kernel_rfl⟩
@[go_sem] theorem fn40 : isFn Tryz.prog 40 := ⟨_, Tryz.func40, rfl, by kernel_rfl⟩
@[go_sem] theorem fn41 : isFn Tryz.prog 41 := ⟨_, Tryz.func41, rfl, by kernel_rfl⟩
@[go_sem] theorem fn42 : isFn Tryz.prog 42 := ⟨_, Tryz.func42, rfl, by kernel_rfl⟩
@[go_sem] theorem fn43 : isFn Tryz.prog 43 := ⟨_, Tryz.func43, rfl, by kernel_rfl⟩
@[go_sem] theorem fn44 : isFn Tryz.prog 44 := ⟨_, Tryz.func44, rfl, by kernel_rfl⟩
@[go_sem] theorem fn45 : isFn Tryz.prog 45 := ⟨_, Tryz.func45, rfl, by kernel_rfl⟩
@[go_sem] theorem fn46 : isFn Tryz.prog 46 := ⟨_, Tryz.func46, rfl, by kernel_rfl⟩
@[go_sem] theorem fn47 : isFn Tryz.prog 47 := ⟨_, Tryz.func47, rfl, by kernel_rfl⟩
@[go_sem] theorem fn48 : isFn Tryz.prog 48 := ⟨_, Tryz.func48, rfl, by kernel_rfl⟩
@[go_sem] theorem fn49 : isFn Tryz.prog 49 := ⟨_, Tryz.func49, rfl, by kernel_rfl⟩
@[go_sem] theorem fn50 : isFn Tryz.prog 50 := ⟨_, Tryz.func50, rfl, by kernel_rfl⟩
@[go_sem] theorem fn51 : isFn Tryz.prog 51 := ⟨_, Tryz.func51, rfl, by kernel_rfl⟩
@[go_sem] theorem fn52 : isFn Tryz.prog 52 := ⟨_, Tryz.func52, rfl, by kernel_rfl⟩
@[go_sem] theorem fn53 : isFn Tryz.prog 53 := ⟨_, Tryz.func53, rfl, by kernel_rfl⟩
@[go_sem] theorem fn54 : isFn Tryz.prog 54 := ⟨_, Tryz.func54, rfl, by kernel_rfl⟩
@[go_sem] theorem fn55 : isFn Tryz.prog 55 := ⟨_, Tryz.func55, rfl, by kernel_rfl⟩
@[go_sem] theorem fn56 : isFn Tryz.prog 56 := ⟨_, Tryz.func56, rfl, by kernel_rfl⟩
@[go_sem] theorem fn57 : isFn Tryz.prog 57 := ⟨_, Tryz.func57, rfl, by kernel_rfl⟩
@[go_sem] theorem fn58 : isFn Tryz.prog 58 := ⟨_, Tryz.func58, rfl, by kernel_rfl⟩
@[go_sem] theorem fn59 : isFn Tryz.prog 59 := ⟨_, Tryz.func59, rfl, by kernel_rfl⟩
@[go_sem] theorem fn60 : isFn Tryz.prog 60 := ⟨_, Tryz.func60, rfl, by kernel_rfl⟩
@[go_sem] theorem fn61 : isFn Tryz.prog 61 := ⟨_, Tryz.func61, rfl, by kernel_rfl⟩
@[go_sem] theorem fn62 : isFn Tryz.prog 62 := ⟨_, Tryz.func62, rfl, by kernel_rfl⟩
@[go_sem] theorem fn63 : isFn Tryz.prog 63 := ⟨_, Tryz.func63, rfl, by kernel_rfl⟩
@[go_sem] theorem fn64 : isFn Tryz.prog 64 := ⟨_, Tryz.func64, rfl, by kernel_rfl⟩
@[go_sem] theorem fn65 : isFn Tryz.prog 65 := ⟨_, Tryz.func65, rfl, by kernel_rfl⟩
@[go_sem] theorem fn66 : isFn Tryz.prog 66 := ⟨_, Tryz.func66, rfl, by kernel_rfl⟩
@[go_sem] theorem fn67 : isFn Tryz.prog 67 := ⟨_, Tryz.func67, rfl, by kernel_rfl⟩
@[go_sem] theorem fn68 : isFn Tryz.prog 68 := ⟨_, Tryz.func68, rfl, by kernel_rfl⟩
@[go_sem] theorem fn69 : isFn Tryz.prog 69 := ⟨_, Tryz.func69, rfl, by kernel_rfl⟩
@[go_sem] theorem fn70 : isFn Tryz.prog 70 := ⟨_, Tryz.func70, rfl, by kernel_rfl⟩
@[go_sem] theorem fn71 : isFn Tryz.prog 71 := ⟨_, Tryz.func71, rfl, by kernel_rfl⟩
@[go_sem] theorem fn72 : isFn Tryz.prog 72 := ⟨_, Tryz.func72, rfl, by kernel_rfl⟩
@[go_sem] theorem fn73 : isFn Tryz.prog 73 := ⟨_, Tryz.func73, rfl, by kernel_rfl⟩
@[go_sem] theorem fn74 : isFn Tryz.prog 74 := ⟨_, Tryz.func74, rfl, by kernel_rfl⟩
@[go_sem] theorem fn75 : isFn Tryz.prog 75 := ⟨_, Tryz.func75, rfl, by kernel_rfl⟩
@[go_sem] theorem fn76 : isFn Tryz.prog 76 := ⟨_, Tryz.func76, rfl, by kernel_rfl⟩
@[go_sem] theorem fn77 : isFn Tryz.prog 77 := ⟨_, Tryz.func77, rfl, by kernel_rfl⟩
@[go_sem] theorem fn78 : isFn Tryz.prog 78 := ⟨_, Tryz.func78, rfl, by kernel_rfl⟩
@[go_sem] theorem fn79 : isFn Tryz.prog 79 := ⟨_, Tryz.func79, rfl, by kernel_rfl⟩
@[go_sem] theorem fn80 : isFn Tryz.prog 80 := ⟨_, Tryz.func80, rfl, by kernel_rfl⟩
@[go_sem] theorem fn81 : isFn Tryz.prog 81 := ⟨_, Tryz.func81, rfl, by kernel_rfl⟩
@[go_sem] theorem fn82 : isFn Tryz.prog 82 := ⟨_, Tryz.func82, rfl, by kernel_rfl⟩
@[go_sem] theorem fn83 : isFn Tryz.prog 83 := ⟨_, Tryz.func83, rfl, by kernel_rfl⟩
@[go_sem] theorem fn84 : isFn Tryz.prog 84 := ⟨_, Tryz.func84, rfl, by kernel_rfl⟩
@[go_sem] theorem fn85 : isFn Tryz.prog 85 := ⟨_, Tryz.func85, rfl, by kernel_rfl⟩
@[go_sem] theorem fn86 : isFn Tryz.prog 86 := ⟨_, Tryz.func86, rfl, by kernel_rfl⟩
@[go_sem] theorem fn87 : isFn Tryz.prog 87 := ⟨_, Tryz.func87, rfl, by kernel_rfl⟩
@[go_sem] theorem fn88 : isFn Tryz.prog 88 := ⟨_, Tryz.func88, rfl, by kernel_rfl⟩
@[go_sem] theorem fn89 : isFn Tryz.prog 89 := ⟨_, Tryz.func89, rfl, by kernel_rfl⟩
@[go_sem] theorem fn90 : isFn Tryz.prog 90 := ⟨_, Tryz.func90, rfl, by kernel_rfl⟩
@[go_sem] theorem fn91 : isFn Tryz.prog 91 := ⟨_, Tryz.func91, rfl, by kernel_rfl⟩
@[go_sem] theorem fn92 : isFn Tryz.prog 92 := ⟨_, Tryz.func92, rfl, by kernel_rfl⟩
@[go_sem] theorem fn93 : isFn Tryz.prog 93 := ⟨_, Tryz.func93, rfl, by kernel_rfl⟩
@[go_sem] theorem fn94 : isFn Tryz.prog 94 := ⟨_, Tryz.func94, rfl, by kernel_rfl⟩
@[go_sem] theorem fn95 : isFn Tryz.prog 95 := ⟨_, Tryz.func95, rfl, by kernel_rfl⟩
@[go_sem] theorem fn96 : isFn Tryz.prog 96 := ⟨_, Tryz.func96, rfl, by kernel_rfl⟩
@[go_sem] theorem fn97 : isFn Tryz.prog 97 := ⟨_, Tryz.func97, rfl, by kernel_rfl⟩
@[go_sem] theorem fn98 : isFn Tryz.prog 98 := ⟨_, Tryz.func98, rfl, by kernel_rfl⟩
@[go_sem] theorem fn99 : isFn Tryz.prog 99 := ⟨_, Tryz.func99, rfl, by kernel_rfl⟩
@[go_sem] theorem fn100 : isFn Tryz.prog 100 := ⟨_, Tryz.func100, rfl, by kernel_rfl⟩
@[go_sem] theorem fn101 : isFn Tryz.prog 101 := ⟨_, Tryz.func101, rfl, by kernel_rfl⟩
@[go_sem] theorem fn102 : isFn Tryz.prog 102 := ⟨_, Tryz.func102, rfl, by kernel_rfl⟩
@[go_sem] theorem fn103 : isFn Tryz.prog 103 := ⟨_, Tryz.func103, rfl, by kernel_rfl⟩
@[go_sem] theorem fn104 : isFn Tryz.prog 104 := ⟨_, Tryz.func104, rfl, by kernel_rfl⟩
@[go_sem] theorem fn105 : isFn Tryz.prog 105 := ⟨_, Tryz.func105, rfl, by kernel_rfl⟩
@[go_sem] theorem fn106 : isFn Tryz.prog 106 := ⟨_, Tryz.func106, rfl, by kernel_rfl⟩
@[go_sem] theorem fn108 : isFn Tryz.prog 108 := ⟨_, Tryz.func108, rfl, by kernel_rfl⟩
@[go_sem] theorem fn109 : isFn Tryz.prog 109 := ⟨_, Tryz.func109, rfl, by kernel_rfl⟩
@[go_sem] theorem fn110 : isFn Tryz.prog 110 := ⟨_, Tryz.func110, rfl, by kernel_rfl⟩
@[go_sem] theorem fn111 : isFn Tryz.prog 111 := ⟨_, Tryz.func111, rfl, by kernel_rfl⟩
@[go_sem] theorem fn112 : isFn Tryz.prog 112 := ⟨_, Tryz.func112, rfl, by kernel_rfl⟩
@[go_sem] theorem fn113 : isFn Tryz.prog 113 := ⟨_, Tryz.func113, rfl, by kernel_rfl⟩
@[go_sem] theorem fn114 : isFn Tryz.prog 114 := ⟨_, Tryz.func114, rfl, by kernel_rfl⟩
@[go_sem] theorem fn115 : isFn Tryz.prog 115 := ⟨_, Tryz.func115, rfl, by kernel_rfl⟩
@[go_sem] theorem fn116 : isFn Tryz.prog 116 := ⟨_, Tryz.func116, rfl, by kernel_rfl⟩
@[go_sem] theorem fn117 : isFn Tryz.prog 117 := ⟨_, Tryz.func117, rfl, by kernel_rfl⟩
@[go_sem] theorem fn118 : isFn Tryz.prog 118 := ⟨_, Tryz.func118, rfl, by kernel_rfl⟩
@[go_sem] theorem fn119 : isFn Tryz.prog 119 := ⟨_, Tryz.func119, rfl, by kernel_rfl⟩
@[go_sem] theorem fn120 : isFn Tryz.prog 120 := ⟨_, Tryz.func120, rfl, by kernel_rfl⟩
@[go_sem] theorem fn121 : isFn Tryz.prog 121 := ⟨_, Tryz.func121, rfl, by kernel_rfl⟩
@[go_sem] theorem fn122 : isFn Tryz.prog 122 := ⟨_, Tryz.func122, rfl, by kernel_rfl⟩
@[go_sem] theorem fn123 : isFn Tryz.prog 123 := ⟨_, Tryz.func123, rfl, by kernel_rfl⟩
@[go_sem] theorem fn124 : isFn Tryz.prog 124 := ⟨_, Tryz.func124, rfl, by kernel_rfl⟩
@[go_sem] theorem fn125 : isFn Tryz.prog 125 := ⟨_, Tryz.func125, rfl, by kernel_rfl⟩
@[go_sem] theorem fn126 : isFn Tryz.prog 126 := ⟨_, Tryz.func126, rfl, by kernel_rfl⟩
@[go_sem] theorem fn127 : isFn Tryz.prog 127 := ⟨_, Tryz.func127, rfl, by kernel_rfl⟩
@[go_sem] theorem fn128 : isFn Tryz.prog 128 := ⟨_, Tryz.func128, rfl, by kernel_rfl⟩
@[go_sem] theorem fn129 : isFn Tryz.prog 129 := ⟨_, Tryz.func129, rfl, by kernel_rfl⟩
@[go_sem] theorem fn130 : isFn Tryz.prog 130 := ⟨_, Tryz.func130, rfl, by kernel_rfl⟩
@[go_sem] theorem fn132 : isFn Tryz.prog 132 := ⟨_, Tryz.func132, rfl, by kernel_rfl⟩
@[go_sem] theorem fn133 : isFn Tryz.prog 133 := ⟨_, Tryz.func133, rfl, by kernel_rfl⟩
end Go.Proofs.YtooikkfldddjfaaGreat

/- The walk: the plain types' cells, and the script. No function of the program in sight. -/
namespace Go.Proofs.YtooikkfldddjfaaGreat
set_option maxRecDepth 10000
open Go.RowKit
set_option linter.unusedVariables false
set_option linter.unusedSimpArgs false
instance : PlainC cInt := ⟨fun x q h => by simp only [cInt, List.mem_singleton] at h; subst h; rfl⟩
instance : FlatC cInt := ⟨fun x q h => by simp only [cInt, List.mem_singleton] at h; subst h; rfl⟩
instance : PlainC cStr := ⟨fun x q h => by simp only [cStr, List.mem_singleton] at h; subst h; rfl⟩
instance : FlatC cStr := ⟨fun x q h => by simp only [cStr, List.mem_singleton] at h; subst h; rfl⟩
instance : PlainC cBool := ⟨fun x q h => by simp only [cBool, List.mem_singleton] at h; subst h; rfl⟩
instance : FlatC cBool := ⟨fun x q h => by simp only [cBool, List.mem_singleton] at h; subst h; rfl⟩
instance : EncOf YLabel := ⟨cLabel⟩
instance : PlainC cLabel := ⟨fun x q h => by simp only [cLabel, List.mem_cons, List.not_mem_nil, or_false] at h; (repeat' (first | (rcases h with rfl | h; rfl) | (subst h; rfl)))⟩
instance : FlatC cLabel := ⟨fun x q h => by simp only [cLabel, List.mem_cons, List.not_mem_nil, or_false] at h; (repeat' (first | (rcases h with rfl | h; rfl) | (subst h; rfl)))⟩
instance : EncOf YParcel := ⟨cParcel⟩
instance : PlainC cParcel := ⟨fun x q h => by simp only [cParcel, List.mem_cons, List.not_mem_nil, or_false] at h; (repeat' (first | (rcases h with rfl | h; rfl) | (subst h; rfl)))⟩
instance : EncOf YZone := ⟨cZone⟩
instance : PlainC cZone := ⟨fun x q h => by simp only [cZone, List.mem_cons, List.not_mem_nil, or_false] at h; (repeat' (first | (rcases h with rfl | h; rfl) | (subst h; rfl)))⟩
instance : FlatC cZone := ⟨fun x q h => by simp only [cZone, List.mem_cons, List.not_mem_nil, or_false] at h; (repeat' (first | (rcases h with rfl | h; rfl) | (subst h; rfl)))⟩
instance : EncOf YRate := ⟨cRate⟩
instance : PlainC cRate := ⟨fun x q h => by simp only [cRate, List.mem_cons, List.not_mem_nil, or_false] at h; (repeat' (first | (rcases h with rfl | h; rfl) | (subst h; rfl)))⟩
instance : FlatC cRate := ⟨fun x q h => by simp only [cRate, List.mem_cons, List.not_mem_nil, or_false] at h; (repeat' (first | (rcases h with rfl | h; rfl) | (subst h; rfl)))⟩
instance : EncOf YLeg := ⟨cLeg⟩
instance : PlainC cLeg := ⟨fun x q h => by simp only [cLeg, List.mem_cons, List.not_mem_nil, or_false] at h; (repeat' (first | (rcases h with rfl | h; rfl) | (subst h; rfl)))⟩
instance : FlatC cLeg := ⟨fun x q h => by simp only [cLeg, List.mem_cons, List.not_mem_nil, or_false] at h; (repeat' (first | (rcases h with rfl | h; rfl) | (subst h; rfl)))⟩
instance : EncOf YNetwork := ⟨cNetwork⟩
instance : PlainC cNetwork := ⟨fun x q h => by simp only [cNetwork, List.mem_cons, List.not_mem_nil, or_false] at h; (repeat' (first | (rcases h with rfl | h; rfl) | (subst h; rfl)))⟩
instance : EncOf YTrip := ⟨cTrip⟩
instance : PlainC cTrip := ⟨fun x q h => by simp only [cTrip, List.mem_cons, List.not_mem_nil, or_false] at h; (repeat' (first | (rcases h with rfl | h; rfl) | (subst h; rfl)))⟩
instance : FlatC cTrip := ⟨fun x q h => by simp only [cTrip, List.mem_cons, List.not_mem_nil, or_false] at h; (repeat' (first | (rcases h with rfl | h; rfl) | (subst h; rfl)))⟩
instance : EncOf YBooking := ⟨cBooking⟩
instance : PlainC cBooking := ⟨fun x q h => by simp only [cBooking, List.mem_cons, List.not_mem_nil, or_false] at h; (repeat' (first | (rcases h with rfl | h; rfl) | (subst h; rfl)))⟩
instance : FlatC cBooking := ⟨fun x q h => by simp only [cBooking, List.mem_cons, List.not_mem_nil, or_false] at h; (repeat' (first | (rcases h with rfl | h; rfl) | (subst h; rfl)))⟩
instance : EncOf YScan := ⟨cScan⟩
instance : PlainC cScan := ⟨fun x q h => by simp only [cScan, List.mem_cons, List.not_mem_nil, or_false] at h; (repeat' (first | (rcases h with rfl | h; rfl) | (subst h; rfl)))⟩
instance : FlatC cScan := ⟨fun x q h => by simp only [cScan, List.mem_cons, List.not_mem_nil, or_false] at h; (repeat' (first | (rcases h with rfl | h; rfl) | (subst h; rfl)))⟩
instance : EncOf YOrder := ⟨cOrder⟩
instance : PlainC cOrder := ⟨fun x q h => by simp only [cOrder, List.mem_cons, List.not_mem_nil, or_false] at h; (repeat' (first | (rcases h with rfl | h; rfl) | (subst h; rfl)))⟩
instance : EncOf YWorld := ⟨cWorld⟩
instance : PlainC cWorld := ⟨fun x q h => by simp only [cWorld, List.mem_cons, List.not_mem_nil, or_false] at h; (repeat' (first | (rcases h with rfl | h; rfl) | (subst h; rfl)))⟩
instance : EncOf YLine := ⟨cLine⟩
instance : PlainC cLine := ⟨fun x q h => by simp only [cLine, List.mem_cons, List.not_mem_nil, or_false] at h; (repeat' (first | (rcases h with rfl | h; rfl) | (subst h; rfl)))⟩
instance : FlatC cLine := ⟨fun x q h => by simp only [cLine, List.mem_cons, List.not_mem_nil, or_false] at h; (repeat' (first | (rcases h with rfl | h; rfl) | (subst h; rfl)))⟩
instance : EncOf YAct := ⟨cAct⟩
instance : PlainC cAct := ⟨fun x q h => by simp only [cAct, List.mem_cons, List.not_mem_nil, or_false] at h; (repeat' (first | (rcases h with rfl | h; rfl) | (subst h; rfl)))⟩
instance : EncOf YOffice := ⟨cOffice⟩
instance : PlainC cOffice := ⟨fun x q h => by simp only [cOffice, List.mem_cons, List.not_mem_nil, or_false] at h; (repeat' (first | (rcases h with rfl | h; rfl) | (subst h; rfl)))⟩
instance : EncOf YItem := ⟨cItem⟩
instance : PlainC cItem := ⟨fun x q h => by simp only [cItem, List.mem_cons, List.not_mem_nil, or_false] at h; (repeat' (first | (rcases h with rfl | h; rfl) | (subst h; rfl)))⟩
instance : FlatC cItem := ⟨fun x q h => by simp only [cItem, List.mem_cons, List.not_mem_nil, or_false] at h; (repeat' (first | (rcases h with rfl | h; rfl) | (subst h; rfl)))⟩
instance : EncOf YChute := ⟨cChute⟩
instance : PlainC cChute := ⟨fun x q h => by simp only [cChute, List.mem_cons, List.not_mem_nil, or_false] at h; (repeat' (first | (rcases h with rfl | h; rfl) | (subst h; rfl)))⟩
instance : EncOf YInlet := ⟨cInlet⟩
instance : PlainC cInlet := ⟨fun x q h => by simp only [cInlet, List.mem_cons, List.not_mem_nil, or_false] at h; (repeat' (first | (rcases h with rfl | h; rfl) | (subst h; rfl)))⟩
instance : EncOf YCentre := ⟨cCentre⟩
instance : PlainC cCentre := ⟨fun x q h => by simp only [cCentre, List.mem_cons, List.not_mem_nil, or_false] at h; (repeat' (first | (rcases h with rfl | h; rfl) | (subst h; rfl)))⟩
instance : EncOf YThing := ⟨cThing⟩
instance : PlainC cThing := ⟨fun x q h => by simp only [cThing, List.mem_cons, List.not_mem_nil, or_false] at h; (repeat' (first | (rcases h with rfl | h; rfl) | (subst h; rfl)))⟩
instance : FlatC cThing := ⟨fun x q h => by simp only [cThing, List.mem_cons, List.not_mem_nil, or_false] at h; (repeat' (first | (rcases h with rfl | h; rfl) | (subst h; rfl)))⟩
instance : EncOf YBelief := ⟨cBelief⟩
instance : PlainC cBelief := ⟨fun x q h => by simp only [cBelief, List.mem_cons, List.not_mem_nil, or_false] at h; (repeat' (first | (rcases h with rfl | h; rfl) | (subst h; rfl)))⟩
attribute [go_sem] cInt cStr cBool cLabel cParcel cZone cRate cLeg cNetwork cTrip cBooking cScan cOrder cWorld cLine cAct cOffice cItem cChute cInlet cCentre cThing cBelief EncOf.c
theorem wk {p : Prop} (h : p := by
  (simp only [List.length_cons, List.length_nil, Nat.reduceAdd, Nat.reduceSub, List.replicate_succ, List.replicate_zero, List.cons_append, List.nil_append, go_sem]);
  repeat' (first
    | ((with_reducible refine pwp_seq ?_); intro K_ hK)
    | ((with_reducible refine pwp_block ?_))
    | ((with_reducible refine pwp_region ?_); simp only [go_sem, Nat.reduceAdd, Nat.reduceSub, Nat.reduceMul, Nat.reduceLT, Nat.reduceLeDiff, Nat.reduceEqDiff, if_true, eq_self])
    | ((with_reducible refine pwp_skip ?_); simp only [thenP_normal, blockP_normal])
    | ((with_reducible refine pwp_exit ?_); (simp only [thenP_exit, blockP_exit, thenP_normal, blockP_normal, if_true, if_false, eq_self, Nat.reduceEqDiff, Nat.one_ne_zero, Nat.zero_ne_one]); (try simp only [bexR, bsr, bsl] at H))
    | ((with_reducible refine pwp_ret ?_); (try simp only [thenP_ret, blockP_ret]))
    | ((with_reducible refine hQ _ _ ?_); (try simp only [bexR, bsr, bsl] at H); replace H := Hret H; subst H; simp only [Fin, resP, oneP, go_sem, Nat.reduceAdd, Nat.reduceSub, Nat.reduceMul, Nat.reduceLT, Nat.reduceLeDiff, Nat.reduceEqDiff, if_true, eq_self]; (with_reducible refine cutS ?_); (first | (with_reducible apply cut_0) | (with_reducible apply cut_1) | (with_reducible apply cut_2) | (with_reducible apply cut_3) | (with_reducible apply cut_4) | (with_reducible apply cut_5) | (with_reducible apply cut_6) | (with_reducible apply cut_7) | (with_reducible apply cut_8)); (repeat' (first       | (with_reducible refine cutT_un ?_)       | (with_reducible refine cutT_c ?_ ?_)       | (with_reducible exact cutT_nil)       | (with_reducible exact cutV_c rfl)       | exact cutV_c rfl       | (with_reducible exact cutL_nil)       | (with_reducible refine cutL_c ?_ ?_)       | exact .c _ rfl       | exact .un _       | exact cutC_ms rfl rfl       | exact cutC_be rfl rfl       | exact cutC_nilsl       | exact cutC_nilms rfl rfl       | (refine cutC_fms rfl ?_)       | (refine cutC_fbe rfl rfl ?_)       | (with_reducible refine cutV_ag ?_)       | (with_reducible refine cutV_tu ?_)       | (with_reducible exact cutAs_nil)       | (with_reducible refine cutAs_c ?_ ?_)       | (with_reducible refine cutA_ag ?_)       | (with_reducible refine cutA_k ?_)       | (with_reducible refine cutV_k ?_)       | (with_reducible exact rowsOk_nil)       | (refine rowsOk_live rfl ?_ ?_)       | (refine rowsOk_new rfl ?_)       | (with_reducible refine rowsOk_dead ?_)       | (with_reducible refine cutB_one ?_)       | (with_reducible exact cutB_nil)       | (with_reducible refine cutB_two ?_)       | (with_reducible exact cutE_n)       | (with_reducible refine cutE_c ?_ ?_)       | (with_reducible exact cutB_same)       | (with_reducible refine cutB_set ?_)       | exact cutB_same       | (refine cutB_set ?_)       | (refine cutB_rep ?_)       | (refine cutB_snoc ?_)       | (simp only [cInt, cStr, cBool, cLabel, cParcel, cZone, cRate, cLeg, cNetwork, cTrip, cBooking, cScan, cOrder, cWorld, cLine, cAct, cOffice, cItem, cChute, cInlet, cCentre, cThing, cBelief])       | (with_unfolding_all rfl))); (all_goals first | (exact dropped_of rfl) | exact none))
    | ((with_reducible refine hQn _ _ ?_); (try simp only [bexR, bsr, bsl] at H); replace H := Hret H; subst H; simp only [Fin, resP, oneP, go_sem, Nat.reduceAdd, Nat.reduceSub, Nat.reduceMul, Nat.reduceLT, Nat.reduceLeDiff, Nat.reduceEqDiff, if_true, eq_self]; (with_reducible refine cutS ?_); (first | (with_reducible apply cut_0) | (with_reducible apply cut_1) | (with_reducible apply cut_2) | (with_reducible apply cut_3) | (with_reducible apply cut_4) | (with_reducible apply cut_5) | (with_reducible apply cut_6) | (with_reducible apply cut_7) | (with_reducible apply cut_8)); (repeat' (first       | (with_reducible refine cutT_un ?_)       | (with_reducible refine cutT_c ?_ ?_)       | (with_reducible exact cutT_nil)       | (with_reducible exact cutV_c rfl)       | exact cutV_c rfl       | (with_reducible exact cutL_nil)       | (with_reducible refine cutL_c ?_ ?_)       | exact .c _ rfl       | exact .un _       | exact cutC_ms rfl rfl       | exact cutC_be rfl rfl       | exact cutC_nilsl       | exact cutC_nilms rfl rfl       | (refine cutC_fms rfl ?_)       | (refine cutC_fbe rfl rfl ?_)       | (with_reducible refine cutV_ag ?_)       | (with_reducible refine cutV_tu ?_)       | (with_reducible exact cutAs_nil)       | (with_reducible refine cutAs_c ?_ ?_)       | (with_reducible refine cutA_ag ?_)       | (with_reducible refine cutA_k ?_)       | (with_reducible refine cutV_k ?_)       | (with_reducible exact rowsOk_nil)       | (refine rowsOk_live rfl ?_ ?_)       | (refine rowsOk_new rfl ?_)       | (with_reducible refine rowsOk_dead ?_)       | (with_reducible refine cutB_one ?_)       | (with_reducible exact cutB_nil)       | (with_reducible refine cutB_two ?_)       | (with_reducible exact cutE_n)       | (with_reducible refine cutE_c ?_ ?_)       | (with_reducible exact cutB_same)       | (with_reducible refine cutB_set ?_)       | exact cutB_same       | (refine cutB_set ?_)       | (refine cutB_rep ?_)       | (refine cutB_snoc ?_)       | (simp only [cInt, cStr, cBool, cLabel, cParcel, cZone, cRate, cLeg, cNetwork, cTrip, cBooking, cScan, cOrder, cWorld, cLine, cAct, cOffice, cItem, cChute, cInlet, cCentre, cThing, cBelief])       | (with_unfolding_all rfl))); (all_goals first | (exact dropped_of rfl) | exact none))
    | ((with_reducible refine gateS ?_); (refine gate2_intro (fun hg => Hc1k H hg ?_) (fun hg => Hc2k H hg ?_)) <;> (clear H; intro H; simp only [go_sem, Nat.reduceAdd, Nat.reduceSub, Nat.reduceMul, Nat.reduceLT, Nat.reduceLeDiff, Nat.reduceEqDiff, if_true, eq_self]))
    | ((with_reducible refine pwp_condE ?_); simp only [evP_tmp, getD_z, getD_s, evP_bool]; (first | (with_reducible refine condP_tt ?_) | (with_reducible refine condP_ff ?_) | ((refine condP_intro (fun hg => Hc1k H hg ?_) (fun hg => Hc2k H hg ?_)) <;> (clear H; intro H))))
    | ((with_reducible refine idxS ?_); replace H := Hcall H; obtain ⟨y_, hy, H⟩ := H; (with_reducible apply idx_sl hy); (focus (first | (simp only [go_sem]; done) | (simp only [go_sem]; decide))); (focus (first | rfl | (simp only [go_sem]; rfl))); simp only [go_sem, Nat.reduceAdd, Nat.reduceSub, Nat.reduceMul, Nat.reduceLT, Nat.reduceLeDiff, Nat.reduceEqDiff, if_true, eq_self])
    | ((with_reducible refine idxM ?_); replace H := Hcall H; obtain ⟨y_, hy, H⟩ := H; (refine idx_msb hy (by rfl) (by first | (simp only [go_sem]; done) | (simp only [go_sem]; decide)) (by first | rfl | (simp only [go_sem]; rfl)) ?_); simp only [go_sem, Nat.reduceAdd, Nat.reduceSub, Nat.reduceMul, Nat.reduceLT, Nat.reduceLeDiff, Nat.reduceEqDiff, if_true, eq_self])
    | ((with_reducible refine idxB ?_); replace H := Hcall H; obtain ⟨y_, hy, H⟩ := H; (with_reducible apply idx_str hy); (focus (simp only [go_sem])); simp only [go_sem, Nat.reduceAdd, Nat.reduceSub, Nat.reduceMul, Nat.reduceLT, Nat.reduceLeDiff, Nat.reduceEqDiff, if_true, eq_self])
    | ((with_reducible refine callS ?_); replace H := Hcall H; obtain ⟨y_, hy, H⟩ := H; (first | ((with_reducible apply call_deep); (focus (exact CT.ok hy)); (focus (simp [isCA, isC, isC1])); (focus (exact Nat.le_of_ble_eq_true rfl)); (focus (first | exact hm_nil | exact hm_one | exact hm_oneT | exact hm_c hm_one (hm_c hm_one hm_one) | exact hm_c hm_one hm_one)); (focus (first | exact gV_ag rfl | exact gV_tu rfl | exact (fun h => (by cases h)) | (simp [CT.res, goodV, goodA, goodC]))); (simp only [CT.res, CT.mem, go_sem, Nat.reduceAdd, Nat.reduceSub, Nat.reduceMul, Nat.reduceLT, Nat.reduceLeDiff, Nat.reduceEqDiff, if_true, eq_self])) | ((with_reducible apply call_flat); (focus (simp only [snapA, snapV, snapC, snapL, live_look, look_z, look_s, rowQ_map, List.forall_mem_nil, true_and, and_true]; (first | exact CT.ok hy | (simp only [all_nil, all_cons, isC, isC1, true_and, and_true]; exact CT.ok hy)))); (focus (exact Nat.le_of_ble_eq_true rfl)); (focus (first | exact hm_nil | exact hm_one | exact hm_oneT | exact hm_c hm_one (hm_c hm_one hm_one) | exact hm_c hm_one hm_one)); (focus (first | exact gV_agF rfl | exact (fun _ => rfl) | (simp [CT.res, goodV, goodA, goodC, isF]))); (simp only [CT.res, CT.mem, go_sem, Nat.reduceAdd, Nat.reduceSub, Nat.reduceMul, Nat.reduceLT, Nat.reduceLeDiff, Nat.reduceEqDiff, if_true, eq_self]))))
    | ((with_reducible refine slcS ?_); replace H := Hchk H; obtain ⟨hc, H⟩ := H; (first | ((with_reducible apply slice_sl hc); (focus rfl); (focus rfl); (focus (first | (simp only [go_sem]; done) | (simp only [go_sem]; decide))); (focus (first | rfl | (intro x_; rfl))); simp only [go_sem, Nat.reduceAdd, Nat.reduceSub, Nat.reduceMul, Nat.reduceLT, Nat.reduceLeDiff, Nat.reduceEqDiff, if_true, eq_self]) | ((refine slice_msb hc (by rfl) (by rfl) (by rfl) (by first | (simp only [go_sem]; done) | (simp only [go_sem]; decide)) (by first | rfl | (simp only [go_sem]; rfl)) ?_); simp only [go_sem, Nat.reduceAdd, Nat.reduceSub, Nat.reduceMul, Nat.reduceLT, Nat.reduceLeDiff, Nat.reduceEqDiff, if_true, eq_self]) | ((with_reducible apply slice_str hc); (focus rfl); (focus rfl); (focus (simp only [go_sem])); simp only [go_sem, Nat.reduceAdd, Nat.reduceSub, Nat.reduceMul, Nat.reduceLT, Nat.reduceLeDiff, Nat.reduceEqDiff, if_true, eq_self])))
    | ((with_reducible refine appS ?_); replace H := Hchk H; obtain ⟨hc, H⟩ := H; (first | (refine app_msb hc (by first | (simp only [go_sem]; done) | (simp only [go_sem]; rfl)) (by first | (simp only [go_sem]; done) | (simp only [go_sem]; rfl)) (by first | (simp only [go_sem]; done) | (simp only [go_sem]; rfl)) (by first | (simp only [go_sem]; done) | (simp only [go_sem]; rfl)) (by rfl) (by first | rfl | exact src_ss' (by rfl) (by rfl) (by rfl)) rfl rfl (by intro x_; rfl) rfl ?_) | (refine app_nlb hc (by first | (simp only [go_sem]; done) | (simp only [go_sem]; rfl)) (by first | (simp only [go_sem]; done) | (simp only [go_sem]; rfl)) (by first | (simp only [go_sem]; done) | (simp only [go_sem]; rfl)) (by first | (simp only [go_sem]; done) | (simp only [go_sem]; rfl)) (by first | rfl | exact src_ss' (by rfl) (by rfl) (by rfl)) rfl rfl (by intro x_; rfl) ?_)); simp only [go_sem, Nat.reduceAdd, Nat.reduceSub, Nat.reduceMul, Nat.reduceLT, Nat.reduceLeDiff, Nat.reduceEqDiff, if_true, eq_self])
    | ((with_reducible refine mkS ?_); replace H := Hchk H; obtain ⟨hc, H⟩ := H; (refine make_b hc (by first | (simp only [go_sem]; done) | (simp only [go_sem]; rfl)) (by first | (simp only [go_sem]; done) | (simp only [go_sem]; rfl)) (by first | (simp only [go_sem]; done) | (simp only [go_sem]; rfl)) (by first | (simp only [go_sem]; done) | (simp only [go_sem]; rfl)) rfl rfl ?_); simp only [go_sem, Nat.reduceAdd, Nat.reduceSub, Nat.reduceMul, Nat.reduceLT, Nat.reduceLeDiff, Nat.reduceEqDiff, if_true, eq_self])
    | ((with_reducible refine optS ?_); (first | (with_reducible refine opt_if (by decide) ?_) | (replace H := Hchk H; obtain ⟨hc, H⟩ := H; (first | (refine opt_if hc ?_) | (refine opt_if (of_decide_eq_true hc) ?_) | (refine opt_if ⟨rfl, of_decide_eq_true hc⟩ ?_)))); simp only [go_sem, Nat.reduceAdd, Nat.reduceSub, Nat.reduceMul, Nat.reduceLT, Nat.reduceLeDiff, Nat.reduceEqDiff, if_true, eq_self])
    | ((with_reducible refine loopS ?_); (refine pwp_loopH (Hlp H) ?_ ?_); (focus (simp only [LoopE.T, LoopE.M]; (with_reducible refine cutS ?_); (first | (with_reducible apply cut_0) | (with_reducible apply cut_1) | (with_reducible apply cut_2) | (with_reducible apply cut_3) | (with_reducible apply cut_4) | (with_reducible apply cut_5) | (with_reducible apply cut_6) | (with_reducible apply cut_7) | (with_reducible apply cut_8)); (repeat' (first       | (with_reducible refine cutT_un ?_)       | (with_reducible refine cutT_c ?_ ?_)       | (with_reducible exact cutT_nil)       | (with_reducible exact cutV_c rfl)       | exact cutV_c rfl       | (with_reducible exact cutL_nil)       | (with_reducible refine cutL_c ?_ ?_)       | exact .c _ rfl       | exact .un _       | exact cutC_ms rfl rfl       | exact cutC_be rfl rfl       | exact cutC_nilsl       | exact cutC_nilms rfl rfl       | (refine cutC_fms rfl ?_)       | (refine cutC_fbe rfl rfl ?_)       | (with_reducible refine cutV_ag ?_)       | (with_reducible refine cutV_tu ?_)       | (with_reducible exact cutAs_nil)       | (with_reducible refine cutAs_c ?_ ?_)       | (with_reducible refine cutA_ag ?_)       | (with_reducible refine cutA_k ?_)       | (with_reducible refine cutV_k ?_)       | (with_reducible exact rowsOk_nil)       | (refine rowsOk_live rfl ?_ ?_)       | (refine rowsOk_new rfl ?_)       | (with_reducible refine rowsOk_dead ?_)       | (with_reducible refine cutB_one ?_)       | (with_reducible exact cutB_nil)       | (with_reducible refine cutB_two ?_)       | (with_reducible exact cutE_n)       | (with_reducible refine cutE_c ?_ ?_)       | (with_reducible exact cutB_same)       | (with_reducible refine cutB_set ?_)       | exact cutB_same       | (refine cutB_set ?_)       | (refine cutB_rep ?_)       | (refine cutB_snoc ?_)       | (simp only [cInt, cStr, cBool, cLabel, cParcel, cZone, cRate, cLeg, cNetwork, cTrip, cBooking, cScan, cOrder, cWorld, cLine, cAct, cOffice, cItem, cChute, cInlet, cCentre, cThing, cBelief])       | (with_unfolding_all rfl))); (all_goals first | (exact dropped_of rfl) | exact none))); (clear H; intro n_ s_ H K_ hL; replace H := Hrd H; simp only [LoopE.T, LoopE.M]))
    | ((with_reducible refine pwp_draw (by kernel_rfl) ?_); simp only [go_sem, Nat.reduceAdd, Nat.reduceSub, Nat.reduceMul, Nat.reduceLT, Nat.reduceLeDiff, Nat.reduceEqDiff, if_true, eq_self])
    | ((with_reducible refine endD_intro (by kernel_rfl) ?_); simp only [thenP_normal, blockP_normal])
    | ((with_reducible refine hK _ _ ?_); clear hK)
    | (clear hK; (with_reducible refine hK _ _ ?_); clear hK)
    | (clear hK; clear hK; (with_reducible refine hK _ _ ?_); clear hK)
    | (clear hK; clear hK; clear hK; (with_reducible refine hK _ _ ?_); clear hK)
    | (clear hK; clear hK; clear hK; clear hK; (with_reducible refine hK _ _ ?_); clear hK)
    | (clear hK; clear hK; clear hK; clear hK; clear hK; (with_reducible refine hK _ _ ?_); clear hK)
    | ((with_reducible refine And.intro ?_ ?_); omega)
    | (simp only [nxt_app, nxd_app, atM_app]; simp only [go_sem, Nat.reduceAdd, Nat.reduceSub, Nat.reduceMul, Nat.reduceLT, Nat.reduceLeDiff, Nat.reduceEqDiff, if_true, eq_self])
    | (simp only [idxmap hy, go_sem, Nat.reduceAdd, Nat.reduceSub, Nat.reduceMul, Nat.reduceLT, Nat.reduceLeDiff, Nat.reduceEqDiff, if_true, eq_self])
    | ((with_reducible replace H := HexL H); (with_reducible refine hL _ _ _ H ?_); simp only [LoopE.T, LoopE.M]; (with_reducible refine cutS ?_); (first | (with_reducible apply cut_0) | (with_reducible apply cut_1) | (with_reducible apply cut_2) | (with_reducible apply cut_3) | (with_reducible apply cut_4) | (with_reducible apply cut_5) | (with_reducible apply cut_6) | (with_reducible apply cut_7) | (with_reducible apply cut_8)); (repeat' (first       | (with_reducible refine cutT_un ?_)       | (with_reducible refine cutT_c ?_ ?_)       | (with_reducible exact cutT_nil)       | (with_reducible exact cutV_c rfl)       | exact cutV_c rfl       | (with_reducible exact cutL_nil)       | (with_reducible refine cutL_c ?_ ?_)       | exact .c _ rfl       | exact .un _       | exact cutC_ms rfl rfl       | exact cutC_be rfl rfl       | exact cutC_nilsl       | exact cutC_nilms rfl rfl       | (refine cutC_fms rfl ?_)       | (refine cutC_fbe rfl rfl ?_)       | (with_reducible refine cutV_ag ?_)       | (with_reducible refine cutV_tu ?_)       | (with_reducible exact cutAs_nil)       | (with_reducible refine cutAs_c ?_ ?_)       | (with_reducible refine cutA_ag ?_)       | (with_reducible refine cutA_k ?_)       | (with_reducible refine cutV_k ?_)       | (with_reducible exact rowsOk_nil)       | (refine rowsOk_live rfl ?_ ?_)       | (refine rowsOk_new rfl ?_)       | (with_reducible refine rowsOk_dead ?_)       | (with_reducible refine cutB_one ?_)       | (with_reducible exact cutB_nil)       | (with_reducible refine cutB_two ?_)       | (with_reducible exact cutE_n)       | (with_reducible refine cutE_c ?_ ?_)       | (with_reducible exact cutB_same)       | (with_reducible refine cutB_set ?_)       | exact cutB_same       | (refine cutB_set ?_)       | (refine cutB_rep ?_)       | (refine cutB_snoc ?_)       | (simp only [cInt, cStr, cBool, cLabel, cParcel, cZone, cRate, cLeg, cNetwork, cTrip, cBooking, cScan, cOrder, cWorld, cLine, cAct, cOffice, cItem, cChute, cInlet, cCentre, cThing, cBelief])       | (with_unfolding_all rfl))); (all_goals first | (exact dropped_of rfl) | exact none))
    | ((with_reducible replace H := HexL H); clear hL; (with_reducible refine hL _ _ _ H ?_); simp only [LoopE.T, LoopE.M]; (with_reducible refine cutS ?_); (first | (with_reducible apply cut_0) | (with_reducible apply cut_1) | (with_reducible apply cut_2) | (with_reducible apply cut_3) | (with_reducible apply cut_4) | (with_reducible apply cut_5) | (with_reducible apply cut_6) | (with_reducible apply cut_7) | (with_reducible apply cut_8)); (repeat' (first       | (with_reducible refine cutT_un ?_)       | (with_reducible refine cutT_c ?_ ?_)       | (with_reducible exact cutT_nil)       | (with_reducible exact cutV_c rfl)       | exact cutV_c rfl       | (with_reducible exact cutL_nil)       | (with_reducible refine cutL_c ?_ ?_)       | exact .c _ rfl       | exact .un _       | exact cutC_ms rfl rfl       | exact cutC_be rfl rfl       | exact cutC_nilsl       | exact cutC_nilms rfl rfl       | (refine cutC_fms rfl ?_)       | (refine cutC_fbe rfl rfl ?_)       | (with_reducible refine cutV_ag ?_)       | (with_reducible refine cutV_tu ?_)       | (with_reducible exact cutAs_nil)       | (with_reducible refine cutAs_c ?_ ?_)       | (with_reducible refine cutA_ag ?_)       | (with_reducible refine cutA_k ?_)       | (with_reducible refine cutV_k ?_)       | (with_reducible exact rowsOk_nil)       | (refine rowsOk_live rfl ?_ ?_)       | (refine rowsOk_new rfl ?_)       | (with_reducible refine rowsOk_dead ?_)       | (with_reducible refine cutB_one ?_)       | (with_reducible exact cutB_nil)       | (with_reducible refine cutB_two ?_)       | (with_reducible exact cutE_n)       | (with_reducible refine cutE_c ?_ ?_)       | (with_reducible exact cutB_same)       | (with_reducible refine cutB_set ?_)       | exact cutB_same       | (refine cutB_set ?_)       | (refine cutB_rep ?_)       | (refine cutB_snoc ?_)       | (simp only [cInt, cStr, cBool, cLabel, cParcel, cZone, cRate, cLeg, cNetwork, cTrip, cBooking, cScan, cOrder, cWorld, cLine, cAct, cOffice, cItem, cChute, cInlet, cCentre, cThing, cBelief])       | (with_unfolding_all rfl))); (all_goals first | (exact dropped_of rfl) | exact none)))) : p := h
theorem eqT_Trip {n : Nat} {a b a2 b2 : Int} : eqT Tryz.prog (n + 3) 57 [vi a, vi b] [vi a2, vi b2] = some (decide ((⟨a, b⟩ : YTrip) = (⟨a2, b2⟩ : YTrip))) := by
  simp only [eqT, Tryz.underlying3, Tryz.underlying57, ts57, Program.fieldsOf, go_sem]
  simp [tc57, tc3]
  try rfl
@[go_sem] theorem eqK_Trip {a b a2 b2 : Int} {KR : PV → Prop} : eqK Tryz.prog .eql 57 [vi a, vi b] [vi a2, vi b2] KR = KR (vb (decide ((⟨a, b⟩ : YTrip) = (⟨a2, b2⟩ : YTrip)))) := by unfold eqK; rw [show (10000 : Nat) = 9997 + 3 from rfl, eqT_Trip, Tryz.underlying57]; simp only [te57, true_and]
@[go_sem] theorem neK_Trip {a b a2 b2 : Int} {KR : PV → Prop} : eqK Tryz.prog .neq 57 [vi a, vi b] [vi a2, vi b2] KR = KR (vb (!decide ((⟨a, b⟩ : YTrip) = (⟨a2, b2⟩ : YTrip)))) := by unfold eqK; rw [show (10000 : Nat) = 9997 + 3 from rfl, eqT_Trip, Tryz.underlying57]; simp only [te57, true_and]
theorem eqT_Booking {n : Nat} {a b c d a2 b2 c2 d2 : Int} : eqT Tryz.prog (n + 3) 114 [vi a, vi b, vi c, vi d] [vi a2, vi b2, vi c2, vi d2] = some (decide ((⟨a, ⟨b, c⟩, d⟩ : YBooking) = (⟨a2, ⟨b2, c2⟩, d2⟩ : YBooking))) := by
  simp only [eqT, Tryz.underlying3, Tryz.underlying114, ts114, Tryz.underlying57, ts57, Program.fieldsOf, go_sem]
  simp [tc114, tc57, tc3]
  try rfl
@[go_sem] theorem eqK_Booking {a b c d a2 b2 c2 d2 : Int} {KR : PV → Prop} : eqK Tryz.prog .eql 114 [vi a, vi b, vi c, vi d] [vi a2, vi b2, vi c2, vi d2] KR = KR (vb (decide ((⟨a, ⟨b, c⟩, d⟩ : YBooking) = (⟨a2, ⟨b2, c2⟩, d2⟩ : YBooking)))) := by unfold eqK; rw [show (10000 : Nat) = 9997 + 3 from rfl, eqT_Booking, Tryz.underlying114]; simp only [te114, true_and]
@[go_sem] theorem neK_Booking {a b c d a2 b2 c2 d2 : Int} {KR : PV → Prop} : eqK Tryz.prog .neq 114 [vi a, vi b, vi c, vi d] [vi a2, vi b2, vi c2, vi d2] KR = KR (vb (!decide ((⟨a, ⟨b, c⟩, d⟩ : YBooking) = (⟨a2, ⟨b2, c2⟩, d2⟩ : YBooking)))) := by unfold eqK; rw [show (10000 : Nat) = 9997 + 3 from rfl, eqT_Booking, Tryz.underlying114]; simp only [te114, true_and]
end Go.Proofs.YtooikkfldddjfaaGreat

/- The mirror of laws.eqLeg, and that the code does just that (printed by a program of my own). -/
namespace Go.Proofs.YtooikkfldddjfaaGreat
set_option maxRecDepth 10000
open Go.RowKit
set_option linter.unusedVariables false
set_option maxHeartbeats 16000000
def m_laws_eqLeg (a : YLeg) (b : YLeg) : Option Bool :=
 cond (!decide (a.from_ = b.from_))
 (some false)
 (cond (!decide (a.to_ = b.to_))
 (some false)
 (cond (!decide (a.start = b.start))
 (some false)
 (cond (!decide (a.takes = b.takes))
 (some false)
 (cond (!decide (a.days = b.days))
 (some false)
 (cond (!decide (a.room = b.room))
 (some false)
 (some true))))))
theorem ok_laws_eqLeg (a : YLeg) (b : YLeg) {r : Bool} (H : m_laws_eqLeg a b = some r) : CallM Tryz.prog 123 [.ag (cLeg a), .ag (cLeg b)] [] (vb r) [] := by
  replace H := H0 H
  unfold m_laws_eqLeg at H
  refine callM_of Tryz.func123 rfl Tryz.ntmps123 Tryz.results123 fun Q hQ hQn => ?_
  exact wk
instance (a : YLeg) (b : YLeg) : CT Tryz.prog (m_laws_eqLeg a b) := ⟨123, [.ag (cLeg a), .ag (cLeg b)], [], fun r => vb r, fun r => [], ok_laws_eqLeg a b⟩
end Go.Proofs.YtooikkfldddjfaaGreat

/- The mirror of laws.toLeg, and that the code does just that (printed by a program of my own). -/
namespace Go.Proofs.YtooikkfldddjfaaGreat
set_option maxRecDepth 10000
open Go.RowKit
set_option linter.unusedVariables false
set_option maxHeartbeats 16000000
def m_laws_toLeg (a : YLeg) : Option YLeg :=
 some a
theorem ok_laws_toLeg (a : YLeg) {r : YLeg} (H : m_laws_toLeg a = some r) : CallM Tryz.prog 122 [.ag (cLeg a)] [] (.ag [vs r.from_, vs r.to_, vi r.start, vi r.takes, vi r.days, vi r.room]) [] := by
  replace H := H0 H
  unfold m_laws_toLeg at H
  refine callM_of Tryz.func122 rfl Tryz.ntmps122 Tryz.results122 fun Q hQ hQn => ?_
  exact wk
instance (a : YLeg) : CT Tryz.prog (m_laws_toLeg a) := ⟨122, [.ag (cLeg a)], [], fun r => .ag [vs r.from_, vs r.to_, vi r.start, vi r.takes, vi r.days, vi r.room], fun r => [], ok_laws_toLeg a⟩
end Go.Proofs.YtooikkfldddjfaaGreat

/- The mirror of laws.szLeg, and that the code does just that (printed by a program of my own). -/
namespace Go.Proofs.YtooikkfldddjfaaGreat
set_option maxRecDepth 10000
open Go.RowKit
set_option linter.unusedVariables false
set_option maxHeartbeats 16000000
def m_laws_szLeg (a : YLeg) (left : Int) : Option Int :=
 cond (decide ((w64 (left - (a.from_.size : Int))) < 0))
 (some (-1))
 (cond (decide ((w64 ((w64 (left - (a.from_.size : Int))) - (a.to_.size : Int))) < 0))
 (some (-1))
 (some (w64 ((w64 (left - (a.from_.size : Int))) - (a.to_.size : Int)))))
theorem ok_laws_szLeg (a : YLeg) (left : Int) {r : Int} (H : m_laws_szLeg a left = some r) : CallM Tryz.prog 119 [.ag (cLeg a), vi left] [] (vi r) [] := by
  replace H := H0 H
  unfold m_laws_szLeg at H
  refine callM_of Tryz.func119 rfl Tryz.ntmps119 Tryz.results119 fun Q hQ hQn => ?_
  exact wk
instance (a : YLeg) (left : Int) : CT Tryz.prog (m_laws_szLeg a left) := ⟨119, [.ag (cLeg a), vi left], [], fun r => vi r, fun r => [], ok_laws_szLeg a left⟩
end Go.Proofs.YtooikkfldddjfaaGreat

/- The mirror of laws.eqLegS, and that the code does just that (printed by a program of my own). -/
namespace Go.Proofs.YtooikkfldddjfaaGreat
set_option maxRecDepth 10000
open Go.RowKit
set_option linter.unusedVariables false
set_option maxHeartbeats 16000000
def m_laws_eqLegS_b0 (a : List YLeg) (b : List YLeg) (s0 : Int) : Option (Int ⊕ (Unit ⊕ Bool)) :=
 cond (decide (s0 < (a.length : Int)))
 ((getI a s0).bind fun y1 =>
 (getI b s0).bind fun y2 =>
 (m_laws_eqLeg y1 y2).bind fun y3 =>
 cond (!y3)
 (some (.inr (.inr false)))
 (some (.inl (w64 (s0 + 1)))))
 (some (.inr (.inl ())))
instance (a : List YLeg) (b : List YLeg) : LoopE (m_laws_eqLegS_b0 a b) := ⟨fun s0 => [.sl (a.map cLeg), .sl (b.map cLeg), .un, .un, .un, vi s0, .un, .un, .un, .un, .un, .un, .un, .un, .un, .un, .un, .un, .un, .un, .un, .un, .un, .un, .un, .un, .un], fun s0 => []⟩
def m_laws_eqLegS (a : List YLeg) (b : List YLeg) : Option Bool :=
 cond (!decide ((a.length : Int) = (b.length : Int)))
 (some false)
 ((iterF (m_laws_eqLegS_b0 a b) NN 0).bind (selim (fun o0 =>
 some true) (fun r => some r)))
theorem ok_laws_eqLegS (a : List YLeg) (b : List YLeg) {r : Bool} (H : m_laws_eqLegS a b = some r) : CallM Tryz.prog 78 [.sl (a.map cLeg), .sl (b.map cLeg)] [] (vb r) [] := by
  replace H := H0 H
  unfold m_laws_eqLegS at H
  refine callM_of Tryz.func78 rfl Tryz.ntmps78 Tryz.results78 fun Q hQ hQn => ?_
  exact wk
instance (a : List YLeg) (b : List YLeg) : CT Tryz.prog (m_laws_eqLegS a b) := ⟨78, [.sl (a.map cLeg), .sl (b.map cLeg)], [], fun r => vb r, fun r => [], ok_laws_eqLegS a b⟩
end Go.Proofs.YtooikkfldddjfaaGreat

/- The mirror of laws.toLegS, and that the code does just that (printed by a program of my own). -/
namespace Go.Proofs.YtooikkfldddjfaaGreat
set_option maxRecDepth 10000
open Go.RowKit
set_option linter.unusedVariables false
set_option maxHeartbeats 16000000
def m_laws_toLegS_b0 (a : List YLeg) (s0 : Int × (List YLeg)) : Option ((Int × (List YLeg)) ⊕ (List YLeg)) :=
 cond (decide (s0.1 < (a.length : Int)))
 ((getI a s0.1).bind fun y1 =>
 (m_laws_toLeg y1).bind fun y2 =>
 (getI s0.2 s0.1).bind fun y3 =>
 some (.inl ((w64 (s0.1 + 1)), (s0.2.set (Int.toNat s0.1) y2))))
 (some (.inr s0.2))
instance (a : List YLeg) : LoopE (m_laws_toLegS_b0 a) := ⟨fun s0 => [.sl (a.map cLeg), .un, .un, .ms 0, vi s0.1, .un, .un, .un, .un, .un, .un, .un, .un, .un, .un, .un, .un, .un, .un, .un, .un, .un, .un], fun s0 => [some ⟨118, 6, s0.2.map cLeg⟩]⟩
def m_laws_toLegS (a : List YLeg) : Option (List YLeg) :=
 (chk (mkOk (a.length : Int) 64)).bind fun _ =>
 (iterF (m_laws_toLegS_b0 a) NN (0, (List.replicate (Int.toNat (a.length : Int)) (⟨⟨#[]⟩, ⟨#[]⟩, 0, 0, 0, 0⟩ : YLeg)))).bind (fun o0 =>
 some o0)
theorem ok_laws_toLegS (a : List YLeg) {r : (List YLeg)} (H : m_laws_toLegS a = some r) : CallM Tryz.prog 76 [.sl (a.map cLeg)] [] (.ms 0) [some ⟨118, 6, r.map cLeg⟩] := by
  replace H := H0 H
  unfold m_laws_toLegS at H
  refine callM_of Tryz.func76 rfl Tryz.ntmps76 Tryz.results76 fun Q hQ hQn => ?_
  exact wk
instance (a : List YLeg) : CT Tryz.prog (m_laws_toLegS a) := ⟨76, [.sl (a.map cLeg)], [], fun r => .ms 0, fun r => [some ⟨118, 6, r.map cLeg⟩], ok_laws_toLegS a⟩
end Go.Proofs.YtooikkfldddjfaaGreat

/- The mirror of laws.szLegS, and that the code does just that (printed by a program of my own). -/
namespace Go.Proofs.YtooikkfldddjfaaGreat
set_option maxRecDepth 10000
open Go.RowKit
set_option linter.unusedVariables false
set_option maxHeartbeats 16000000
def m_laws_szLegS_b0 (a : List YLeg) (s0 : Int × Int) : Option ((Int × Int) ⊕ (Int ⊕ Int)) :=
 cond (decide (s0.2 < (a.length : Int)))
 ((getI a s0.2).bind fun y1 =>
 (m_laws_szLeg y1 s0.1).bind fun y2 =>
 cond (decide (y2 < 0))
 (some (.inr (.inr (-1))))
 (some (.inl (y2, (w64 (s0.2 + 1))))))
 (some (.inr (.inl s0.1)))
instance (a : List YLeg) : LoopE (m_laws_szLegS_b0 a) := ⟨fun s0 => [.sl (a.map cLeg), vi s0.1, .un, .un, .un, vi s0.2, .un, .un, .un, .un, .un, .un, .un, .un, .un, .un, .un, .un, .un, .un, .un, .un, .un, .un, .un, .un, .un], fun s0 => []⟩
def m_laws_szLegS (a : List YLeg) (left : Int) : Option Int :=
 cond (decide ((w64 (left - (a.length : Int))) < 0))
 (some (-1))
 ((iterF (m_laws_szLegS_b0 a) NN ((w64 (left - (a.length : Int))), 0)).bind (selim (fun o0 =>
 some o0) (fun r => some r)))
theorem ok_laws_szLegS (a : List YLeg) (left : Int) {r : Int} (H : m_laws_szLegS a left = some r) : CallM Tryz.prog 74 [.sl (a.map cLeg), vi left] [] (vi r) [] := by
  replace H := H0 H
  unfold m_laws_szLegS at H
  refine callM_of Tryz.func74 rfl Tryz.ntmps74 Tryz.results74 fun Q hQ hQn => ?_
  exact wk
instance (a : List YLeg) (left : Int) : CT Tryz.prog (m_laws_szLegS a left) := ⟨74, [.sl (a.map cLeg), vi left], [], fun r => vi r, fun r => [], ok_laws_szLegS a left⟩
end Go.Proofs.YtooikkfldddjfaaGreat

/- The mirror of laws.eqIntS, and that the code does just that (printed by a program of my own). -/
namespace Go.Proofs.YtooikkfldddjfaaGreat
set_option maxRecDepth 10000
open Go.RowKit
set_option linter.unusedVariables false
set_option maxHeartbeats 16000000
def m_laws_eqIntS_b0 (a : List Int) (b : List Int) (s0 : Int) : Option (Int ⊕ (Unit ⊕ Bool)) :=
 cond (decide (s0 < (a.length : Int)))
 ((getI a s0).bind fun y1 =>
 (getI b s0).bind fun y2 =>
 cond (!decide (y1 = y2))
 (some (.inr (.inr false)))
 (some (.inl (w64 (s0 + 1)))))
 (some (.inr (.inl ())))
instance (a : List Int) (b : List Int) : LoopE (m_laws_eqIntS_b0 a b) := ⟨fun s0 => [.sl (a.map cInt), .sl (b.map cInt), .un, .un, .un, vi s0, .un, .un, .un, .un, .un, .un, .un, .un, .un, .un, .un, .un, .un, .un, .un, .un, .un, .un, .un, .un], fun s0 => []⟩
def m_laws_eqIntS (a : List Int) (b : List Int) : Option Bool :=
 cond (!decide ((a.length : Int) = (b.length : Int)))
 (some false)
 ((iterF (m_laws_eqIntS_b0 a b) NN 0).bind (selim (fun o0 =>
 some true) (fun r => some r)))
theorem ok_laws_eqIntS (a : List Int) (b : List Int) {r : Bool} (H : m_laws_eqIntS a b = some r) : CallM Tryz.prog 21 [.sl (a.map cInt), .sl (b.map cInt)] [] (vb r) [] := by
  replace H := H0 H
  unfold m_laws_eqIntS at H
  refine callM_of Tryz.func21 rfl Tryz.ntmps21 Tryz.results21 fun Q hQ hQn => ?_
  exact wk
instance (a : List Int) (b : List Int) : CT Tryz.prog (m_laws_eqIntS a b) := ⟨21, [.sl (a.map cInt), .sl (b.map cInt)], [], fun r => vb r, fun r => [], ok_laws_eqIntS a b⟩
end Go.Proofs.YtooikkfldddjfaaGreat

/- The mirror of laws.toIntS, and that the code does just that (printed by a program of my own). -/
namespace Go.Proofs.YtooikkfldddjfaaGreat
set_option maxRecDepth 10000
open Go.RowKit
set_option linter.unusedVariables false
set_option maxHeartbeats 16000000
def m_laws_toIntS_b0 (a : List Int) (s0 : Int × (List Int)) : Option ((Int × (List Int)) ⊕ (List Int)) :=
 cond (decide (s0.1 < (a.length : Int)))
 ((getI a s0.1).bind fun y1 =>
 (getI s0.2 s0.1).bind fun y2 =>
 some (.inl ((w64 (s0.1 + 1)), (s0.2.set (Int.toNat s0.1) y1))))
 (some (.inr s0.2))
instance (a : List Int) : LoopE (m_laws_toIntS_b0 a) := ⟨fun s0 => [.sl (a.map cInt), .un, .un, .ms 0, vi s0.1, .un, .un, .un, .un, .un, .un, .un, .un, .un, .un, .un, .un, .un, .un, .un, .un, .un], fun s0 => [some ⟨3, 1, s0.2.map cInt⟩]⟩
def m_laws_toIntS (a : List Int) : Option (List Int) :=
 (chk (mkOk (a.length : Int) 8)).bind fun _ =>
 (iterF (m_laws_toIntS_b0 a) NN (0, (List.replicate (Int.toNat (a.length : Int)) 0))).bind (fun o0 =>
 some o0)
theorem ok_laws_toIntS (a : List Int) {r : (List Int)} (H : m_laws_toIntS a = some r) : CallM Tryz.prog 33 [.sl (a.map cInt)] [] (.ms 0) [some ⟨3, 1, r.map cInt⟩] := by
  replace H := H0 H
  unfold m_laws_toIntS at H
  refine callM_of Tryz.func33 rfl Tryz.ntmps33 Tryz.results33 fun Q hQ hQn => ?_
  exact wk
instance (a : List Int) : CT Tryz.prog (m_laws_toIntS a) := ⟨33, [.sl (a.map cInt)], [], fun r => .ms 0, fun r => [some ⟨3, 1, r.map cInt⟩], ok_laws_toIntS a⟩
end Go.Proofs.YtooikkfldddjfaaGreat

/- The mirror of laws.szIntS, and that the code does just that (printed by a program of my own). -/
namespace Go.Proofs.YtooikkfldddjfaaGreat
set_option maxRecDepth 10000
open Go.RowKit
set_option linter.unusedVariables false
set_option maxHeartbeats 16000000
def m_laws_szIntS (a : List Int) (left : Int) : Option Int :=
 cond (decide ((w64 (left - (a.length : Int))) < 0))
 (some (-1))
 (some (w64 (left - (a.length : Int))))
theorem ok_laws_szIntS (a : List Int) (left : Int) {r : Int} (H : m_laws_szIntS a left = some r) : CallM Tryz.prog 42 [.sl (a.map cInt), vi left] [] (vi r) [] := by
  replace H := H0 H
  unfold m_laws_szIntS at H
  refine callM_of Tryz.func42 rfl Tryz.ntmps42 Tryz.results42 fun Q hQ hQn => ?_
  exact wk
instance (a : List Int) (left : Int) : CT Tryz.prog (m_laws_szIntS a left) := ⟨42, [.sl (a.map cInt), vi left], [], fun r => vi r, fun r => [], ok_laws_szIntS a left⟩
end Go.Proofs.YtooikkfldddjfaaGreat

/- The mirror of laws.eqNetwork, and that the code does just that (printed by a program of my own). -/
namespace Go.Proofs.YtooikkfldddjfaaGreat
set_option maxRecDepth 10000
open Go.RowKit
set_option linter.unusedVariables false
set_option maxHeartbeats 16000000
def m_laws_eqNetwork (a : YNetwork) (b : YNetwork) : Option Bool :=
 (m_laws_eqLegS a.legs b.legs).bind fun y1 =>
 cond (!y1)
 (some false)
 ((m_laws_eqIntS a.off b.off).bind fun y2 =>
 cond (!y2)
 (some false)
 (cond (!decide (a.change = b.change))
 (some false)
 (some true)))
theorem ok_laws_eqNetwork (a : YNetwork) (b : YNetwork) {r : Bool} (H : m_laws_eqNetwork a b = some r) : CallM Tryz.prog 35 [.ag (cNetwork a), .ag (cNetwork b)] [] (vb r) [] := by
  replace H := H0 H
  unfold m_laws_eqNetwork at H
  refine callM_of Tryz.func35 rfl Tryz.ntmps35 Tryz.results35 fun Q hQ hQn => ?_
  exact wk
instance (a : YNetwork) (b : YNetwork) : CT Tryz.prog (m_laws_eqNetwork a b) := ⟨35, [.ag (cNetwork a), .ag (cNetwork b)], [], fun r => vb r, fun r => [], ok_laws_eqNetwork a b⟩
end Go.Proofs.YtooikkfldddjfaaGreat

/- The mirror of laws.toNetwork, and that the code does just that (printed by a program of my own). -/
namespace Go.Proofs.YtooikkfldddjfaaGreat
set_option maxRecDepth 10000
open Go.RowKit
set_option linter.unusedVariables false
set_option maxHeartbeats 16000000
def m_laws_toNetwork (a : YNetwork) : Option YNetwork :=
 (m_laws_toLegS a.legs).bind fun y1 =>
 (m_laws_toIntS a.off).bind fun y2 =>
 some (⟨y1, y2, a.change⟩ : YNetwork)
theorem ok_laws_toNetwork (a : YNetwork) {r : YNetwork} (H : m_laws_toNetwork a = some r) : CallM Tryz.prog 32 [.ag (cNetwork a)] [] (.ag [.sl (r.legs.map cLeg), .sl (r.off.map cInt), vi r.change]) [] := by
  replace H := H0 H
  unfold m_laws_toNetwork at H
  refine callM_of Tryz.func32 rfl Tryz.ntmps32 Tryz.results32 fun Q hQ hQn => ?_
  exact wk
instance (a : YNetwork) : CT Tryz.prog (m_laws_toNetwork a) := ⟨32, [.ag (cNetwork a)], [], fun r => .ag [.sl (r.legs.map cLeg), .sl (r.off.map cInt), vi r.change], fun r => [], ok_laws_toNetwork a⟩
end Go.Proofs.YtooikkfldddjfaaGreat

/- The mirror of laws.szNetwork, and that the code does just that (printed by a program of my own). -/
namespace Go.Proofs.YtooikkfldddjfaaGreat
set_option maxRecDepth 10000
open Go.RowKit
set_option linter.unusedVariables false
set_option maxHeartbeats 16000000
def m_laws_szNetwork (a : YNetwork) (left : Int) : Option Int :=
 (m_laws_szLegS a.legs left).bind fun y1 =>
 cond (decide (y1 < 0))
 (some (-1))
 ((m_laws_szIntS a.off y1).bind fun y2 =>
 cond (decide (y2 < 0))
 (some (-1))
 (some y2))
theorem ok_laws_szNetwork (a : YNetwork) (left : Int) {r : Int} (H : m_laws_szNetwork a left = some r) : CallM Tryz.prog 30 [.ag (cNetwork a), vi left] [] (vi r) [] := by
  replace H := H0 H
  unfold m_laws_szNetwork at H
  refine callM_of Tryz.func30 rfl Tryz.ntmps30 Tryz.results30 fun Q hQ hQn => ?_
  exact wk
instance (a : YNetwork) (left : Int) : CT Tryz.prog (m_laws_szNetwork a left) := ⟨30, [.ag (cNetwork a), vi left], [], fun r => vi r, fun r => [], ok_laws_szNetwork a left⟩
end Go.Proofs.YtooikkfldddjfaaGreat

/- The mirror of laws.eqTrip, and that the code does just that (printed by a program of my own). -/
namespace Go.Proofs.YtooikkfldddjfaaGreat
set_option maxRecDepth 10000
open Go.RowKit
set_option linter.unusedVariables false
set_option maxHeartbeats 16000000
def m_laws_eqTrip (a : YTrip) (b : YTrip) : Option Bool :=
 cond (!decide (a.leg = b.leg))
 (some false)
 (cond (!decide (a.day = b.day))
 (some false)
 (some true))
theorem ok_laws_eqTrip (a : YTrip) (b : YTrip) {r : Bool} (H : m_laws_eqTrip a b = some r) : CallM Tryz.prog 114 [.ag (cTrip a), .ag (cTrip b)] [] (vb r) [] := by
  replace H := H0 H
  unfold m_laws_eqTrip at H
  refine callM_of Tryz.func114 rfl Tryz.ntmps114 Tryz.results114 fun Q hQ hQn => ?_
  exact wk
instance (a : YTrip) (b : YTrip) : CT Tryz.prog (m_laws_eqTrip a b) := ⟨114, [.ag (cTrip a), .ag (cTrip b)], [], fun r => vb r, fun r => [], ok_laws_eqTrip a b⟩
end Go.Proofs.YtooikkfldddjfaaGreat

/- The mirror of laws.toTrip, and that the code does just that (printed by a program of my own). -/
namespace Go.Proofs.YtooikkfldddjfaaGreat
set_option maxRecDepth 10000
open Go.RowKit
set_option linter.unusedVariables false
set_option maxHeartbeats 16000000
def m_laws_toTrip (a : YTrip) : Option YTrip :=
 some a
theorem ok_laws_toTrip (a : YTrip) {r : YTrip} (H : m_laws_toTrip a = some r) : CallM Tryz.prog 28 [.ag (cTrip a)] [] (.ag [vi r.leg, vi r.day]) [] := by
  replace H := H0 H
  unfold m_laws_toTrip at H
  refine callM_of Tryz.func28 rfl Tryz.ntmps28 Tryz.results28 fun Q hQ hQn => ?_
  exact wk
instance (a : YTrip) : CT Tryz.prog (m_laws_toTrip a) := ⟨28, [.ag (cTrip a)], [], fun r => .ag [vi r.leg, vi r.day], fun r => [], ok_laws_toTrip a⟩
end Go.Proofs.YtooikkfldddjfaaGreat

/- The mirror of laws.eqTripS, and that the code does just that (printed by a program of my own). -/
namespace Go.Proofs.YtooikkfldddjfaaGreat
set_option maxRecDepth 10000
open Go.RowKit
set_option linter.unusedVariables false
set_option maxHeartbeats 16000000
def m_laws_eqTripS_b0 (a : List YTrip) (b : List YTrip) (s0 : Int) : Option (Int ⊕ (Unit ⊕ Bool)) :=
 cond (decide (s0 < (a.length : Int)))
 ((getI a s0).bind fun y1 =>
 (getI b s0).bind fun y2 =>
 (m_laws_eqTrip y1 y2).bind fun y3 =>
 cond (!y3)
 (some (.inr (.inr false)))
 (some (.inl (w64 (s0 + 1)))))
 (some (.inr (.inl ())))
instance (a : List YTrip) (b : List YTrip) : LoopE (m_laws_eqTripS_b0 a b) := ⟨fun s0 => [.sl (a.map cTrip), .sl (b.map cTrip), .un, .un, .un, vi s0, .un, .un, .un, .un, .un, .un, .un, .un, .un, .un, .un, .un, .un, .un, .un, .un, .un, .un, .un, .un, .un], fun s0 => []⟩
def m_laws_eqTripS (a : List YTrip) (b : List YTrip) : Option Bool :=
 cond (!decide ((a.length : Int) = (b.length : Int)))
 (some false)
 ((iterF (m_laws_eqTripS_b0 a b) NN 0).bind (selim (fun o0 =>
 some true) (fun r => some r)))
theorem ok_laws_eqTripS (a : List YTrip) (b : List YTrip) {r : Bool} (H : m_laws_eqTripS a b = some r) : CallM Tryz.prog 62 [.sl (a.map cTrip), .sl (b.map cTrip)] [] (vb r) [] := by
  replace H := H0 H
  unfold m_laws_eqTripS at H
  refine callM_of Tryz.func62 rfl Tryz.ntmps62 Tryz.results62 fun Q hQ hQn => ?_
  exact wk
instance (a : List YTrip) (b : List YTrip) : CT Tryz.prog (m_laws_eqTripS a b) := ⟨62, [.sl (a.map cTrip), .sl (b.map cTrip)], [], fun r => vb r, fun r => [], ok_laws_eqTripS a b⟩
end Go.Proofs.YtooikkfldddjfaaGreat

/- The mirror of laws.toTripS, and that the code does just that (printed by a program of my own). -/
namespace Go.Proofs.YtooikkfldddjfaaGreat
set_option maxRecDepth 10000
open Go.RowKit
set_option linter.unusedVariables false
set_option maxHeartbeats 16000000
def m_laws_toTripS_b0 (a : List YTrip) (s0 : Int × (List YTrip)) : Option ((Int × (List YTrip)) ⊕ (List YTrip)) :=
 cond (decide (s0.1 < (a.length : Int)))
 ((getI a s0.1).bind fun y1 =>
 (m_laws_toTrip y1).bind fun y2 =>
 (getI s0.2 s0.1).bind fun y3 =>
 some (.inl ((w64 (s0.1 + 1)), (s0.2.set (Int.toNat s0.1) y2))))
 (some (.inr s0.2))
instance (a : List YTrip) : LoopE (m_laws_toTripS_b0 a) := ⟨fun s0 => [.sl (a.map cTrip), .un, .un, .ms 0, vi s0.1, .un, .un, .un, .un, .un, .un, .un, .un, .un, .un, .un, .un, .un, .un, .un, .un, .un, .un], fun s0 => [some ⟨57, 2, s0.2.map cTrip⟩]⟩
def m_laws_toTripS (a : List YTrip) : Option (List YTrip) :=
 (chk (mkOk (a.length : Int) 16)).bind fun _ =>
 (iterF (m_laws_toTripS_b0 a) NN (0, (List.replicate (Int.toNat (a.length : Int)) (⟨0, 0⟩ : YTrip)))).bind (fun o0 =>
 some o0)
theorem ok_laws_toTripS (a : List YTrip) {r : (List YTrip)} (H : m_laws_toTripS a = some r) : CallM Tryz.prog 51 [.sl (a.map cTrip)] [] (.ms 0) [some ⟨57, 2, r.map cTrip⟩] := by
  replace H := H0 H
  unfold m_laws_toTripS at H
  refine callM_of Tryz.func51 rfl Tryz.ntmps51 Tryz.results51 fun Q hQ hQn => ?_
  exact wk
instance (a : List YTrip) : CT Tryz.prog (m_laws_toTripS a) := ⟨51, [.sl (a.map cTrip)], [], fun r => .ms 0, fun r => [some ⟨57, 2, r.map cTrip⟩], ok_laws_toTripS a⟩
end Go.Proofs.YtooikkfldddjfaaGreat

/- The mirror of laws.szTripS, and that the code does just that (printed by a program of my own). -/
namespace Go.Proofs.YtooikkfldddjfaaGreat
set_option maxRecDepth 10000
open Go.RowKit
set_option linter.unusedVariables false
set_option maxHeartbeats 16000000
def m_laws_szTripS (a : List YTrip) (left : Int) : Option Int :=
 cond (decide ((w64 (left - (a.length : Int))) < 0))
 (some (-1))
 (some (w64 (left - (a.length : Int))))
theorem ok_laws_szTripS (a : List YTrip) (left : Int) {r : Int} (H : m_laws_szTripS a left = some r) : CallM Tryz.prog 40 [.sl (a.map cTrip), vi left] [] (vi r) [] := by
  replace H := H0 H
  unfold m_laws_szTripS at H
  refine callM_of Tryz.func40 rfl Tryz.ntmps40 Tryz.results40 fun Q hQ hQn => ?_
  exact wk
instance (a : List YTrip) (left : Int) : CT Tryz.prog (m_laws_szTripS a left) := ⟨40, [.sl (a.map cTrip), vi left], [], fun r => vi r, fun r => [], ok_laws_szTripS a left⟩
end Go.Proofs.YtooikkfldddjfaaGreat

/- The mirror of laws.eqOrder, and that the code does just that (printed by a program of my own). -/
namespace Go.Proofs.YtooikkfldddjfaaGreat
set_option maxRecDepth 10000
open Go.RowKit
set_option linter.unusedVariables false
set_option maxHeartbeats 16000000
def m_laws_eqOrder (a : YOrder) (b : YOrder) : Option Bool :=
 cond (!decide (a.from_ = b.from_))
 (some false)
 (cond (!decide (a.to_ = b.to_))
 (some false)
 (cond (!decide (a.service = b.service))
 (some false)
 (cond (!decide (a.weight = b.weight))
 (some false)
 (cond (!decide (a.at_ = b.at_))
 (some false)
 (cond (!decide (a.due = b.due))
 (some false)
 ((m_laws_eqTripS a.way b.way).bind fun y1 =>
 cond (!y1)
 (some false)
 (cond (!decide (a.gone = b.gone))
 (some false)
 (cond (!decide (a.state = b.state))
 (some false)
 (cond (!decide (a.place = b.place))
 (some false)
 (cond (!decide (a.ended = b.ended))
 (some false)
 (some true)))))))))))
theorem ok_laws_eqOrder (a : YOrder) (b : YOrder) {r : Bool} (H : m_laws_eqOrder a b = some r) : CallM Tryz.prog 112 [.ag (cOrder a), .ag (cOrder b)] [] (vb r) [] := by
  replace H := H0 H
  unfold m_laws_eqOrder at H
  refine callM_of Tryz.func112 rfl Tryz.ntmps112 Tryz.results112 fun Q hQ hQn => ?_
  exact wk
instance (a : YOrder) (b : YOrder) : CT Tryz.prog (m_laws_eqOrder a b) := ⟨112, [.ag (cOrder a), .ag (cOrder b)], [], fun r => vb r, fun r => [], ok_laws_eqOrder a b⟩
end Go.Proofs.YtooikkfldddjfaaGreat

/- The mirror of laws.toOrder, and that the code does just that (printed by a program of my own). -/
namespace Go.Proofs.YtooikkfldddjfaaGreat
set_option maxRecDepth 10000
open Go.RowKit
set_option linter.unusedVariables false
set_option maxHeartbeats 16000000
def m_laws_toOrder (a : YOrder) : Option YOrder :=
 (m_laws_toTripS a.way).bind fun y1 =>
 some (⟨a.from_, a.to_, a.service, a.weight, a.at_, a.due, y1, a.gone, a.state, a.place, a.ended⟩ : YOrder)
theorem ok_laws_toOrder (a : YOrder) {r : YOrder} (H : m_laws_toOrder a = some r) : CallM Tryz.prog 98 [.ag (cOrder a)] [] (.ag [vs r.from_, vs r.to_, vi r.service, vi r.weight, vi r.at_, vi r.due, .sl (r.way.map cTrip), vi r.gone, vi r.state, vs r.place, vi r.ended]) [] := by
  replace H := H0 H
  unfold m_laws_toOrder at H
  refine callM_of Tryz.func98 rfl Tryz.ntmps98 Tryz.results98 fun Q hQ hQn => ?_
  exact wk
instance (a : YOrder) : CT Tryz.prog (m_laws_toOrder a) := ⟨98, [.ag (cOrder a)], [], fun r => .ag [vs r.from_, vs r.to_, vi r.service, vi r.weight, vi r.at_, vi r.due, .sl (r.way.map cTrip), vi r.gone, vi r.state, vs r.place, vi r.ended], fun r => [], ok_laws_toOrder a⟩
end Go.Proofs.YtooikkfldddjfaaGreat

/- The mirror of laws.szOrder, and that the code does just that (printed by a program of my own). -/
namespace Go.Proofs.YtooikkfldddjfaaGreat
set_option maxRecDepth 10000
open Go.RowKit
set_option linter.unusedVariables false
set_option maxHeartbeats 16000000
def m_laws_szOrder (a : YOrder) (left : Int) : Option Int :=
 cond (decide ((w64 (left - (a.from_.size : Int))) < 0))
 (some (-1))
 (cond (decide ((w64 ((w64 (left - (a.from_.size : Int))) - (a.to_.size : Int))) < 0))
 (some (-1))
 ((m_laws_szTripS a.way (w64 ((w64 (left - (a.from_.size : Int))) - (a.to_.size : Int)))).bind fun y1 =>
 cond (decide (y1 < 0))
 (some (-1))
 (cond (decide ((w64 (y1 - (a.place.size : Int))) < 0))
 (some (-1))
 (some (w64 (y1 - (a.place.size : Int)))))))
theorem ok_laws_szOrder (a : YOrder) (left : Int) {r : Int} (H : m_laws_szOrder a left = some r) : CallM Tryz.prog 85 [.ag (cOrder a), vi left] [] (vi r) [] := by
  replace H := H0 H
  unfold m_laws_szOrder at H
  refine callM_of Tryz.func85 rfl Tryz.ntmps85 Tryz.results85 fun Q hQ hQn => ?_
  exact wk
instance (a : YOrder) (left : Int) : CT Tryz.prog (m_laws_szOrder a left) := ⟨85, [.ag (cOrder a), vi left], [], fun r => vi r, fun r => [], ok_laws_szOrder a left⟩
end Go.Proofs.YtooikkfldddjfaaGreat

/- The mirror of laws.eqOrderS, and that the code does just that (printed by a program of my own). -/
namespace Go.Proofs.YtooikkfldddjfaaGreat
set_option maxRecDepth 10000
open Go.RowKit
set_option linter.unusedVariables false
set_option maxHeartbeats 16000000
def m_laws_eqOrderS_b0 (a : List YOrder) (b : List YOrder) (s0 : Int) : Option (Int ⊕ (Unit ⊕ Bool)) :=
 cond (decide (s0 < (a.length : Int)))
 ((getI a s0).bind fun y1 =>
 (getI b s0).bind fun y2 =>
 (m_laws_eqOrder y1 y2).bind fun y3 =>
 cond (!y3)
 (some (.inr (.inr false)))
 (some (.inl (w64 (s0 + 1)))))
 (some (.inr (.inl ())))
instance (a : List YOrder) (b : List YOrder) : LoopE (m_laws_eqOrderS_b0 a b) := ⟨fun s0 => [.sl (a.map cOrder), .sl (b.map cOrder), .un, .un, .un, vi s0, .un, .un, .un, .un, .un, .un, .un, .un, .un, .un, .un, .un, .un, .un, .un, .un, .un, .un, .un, .un, .un], fun s0 => []⟩
def m_laws_eqOrderS (a : List YOrder) (b : List YOrder) : Option Bool :=
 cond (!decide ((a.length : Int) = (b.length : Int)))
 (some false)
 ((iterF (m_laws_eqOrderS_b0 a b) NN 0).bind (selim (fun o0 =>
 some true) (fun r => some r)))
theorem ok_laws_eqOrderS (a : List YOrder) (b : List YOrder) {r : Bool} (H : m_laws_eqOrderS a b = some r) : CallM Tryz.prog 60 [.sl (a.map cOrder), .sl (b.map cOrder)] [] (vb r) [] := by
  replace H := H0 H
  unfold m_laws_eqOrderS at H
  refine callM_of Tryz.func60 rfl Tryz.ntmps60 Tryz.results60 fun Q hQ hQn => ?_
  exact wk
instance (a : List YOrder) (b : List YOrder) : CT Tryz.prog (m_laws_eqOrderS a b) := ⟨60, [.sl (a.map cOrder), .sl (b.map cOrder)], [], fun r => vb r, fun r => [], ok_laws_eqOrderS a b⟩
end Go.Proofs.YtooikkfldddjfaaGreat

/- The mirror of laws.toOrderS, and that the code does just that (printed by a program of my own). -/
namespace Go.Proofs.YtooikkfldddjfaaGreat
set_option maxRecDepth 10000
open Go.RowKit
set_option linter.unusedVariables false
set_option maxHeartbeats 16000000
def m_laws_toOrderS_b0 (a : List YOrder) (s0 : Int × (List YOrder)) : Option ((Int × (List YOrder)) ⊕ (List YOrder)) :=
 cond (decide (s0.1 < (a.length : Int)))
 ((getI a s0.1).bind fun y1 =>
 (m_laws_toOrder y1).bind fun y2 =>
 (getI s0.2 s0.1).bind fun y3 =>
 some (.inl ((w64 (s0.1 + 1)), (s0.2.set (Int.toNat s0.1) y2))))
 (some (.inr s0.2))
instance (a : List YOrder) : LoopE (m_laws_toOrderS_b0 a) := ⟨fun s0 => [.sl (a.map cOrder), .un, .un, .ms 0, vi s0.1, .un, .un, .un, .un, .un, .un, .un, .un, .un, .un, .un, .un, .un, .un, .un, .un, .un, .un], fun s0 => [some ⟨81, 11, s0.2.map cOrder⟩]⟩
def m_laws_toOrderS (a : List YOrder) : Option (List YOrder) :=
 (chk (mkOk (a.length : Int) 128)).bind fun _ =>
 (iterF (m_laws_toOrderS_b0 a) NN (0, (List.replicate (Int.toNat (a.length : Int)) (⟨⟨#[]⟩, ⟨#[]⟩, 0, 0, 0, 0, [], 0, 0, ⟨#[]⟩, 0⟩ : YOrder)))).bind (fun o0 =>
 some o0)
theorem ok_laws_toOrderS (a : List YOrder) {r : (List YOrder)} (H : m_laws_toOrderS a = some r) : CallM Tryz.prog 49 [.sl (a.map cOrder)] [] (.ms 0) [some ⟨81, 11, r.map cOrder⟩] := by
  replace H := H0 H
  unfold m_laws_toOrderS at H
  refine callM_of Tryz.func49 rfl Tryz.ntmps49 Tryz.results49 fun Q hQ hQn => ?_
  exact wk
instance (a : List YOrder) : CT Tryz.prog (m_laws_toOrderS a) := ⟨49, [.sl (a.map cOrder)], [], fun r => .ms 0, fun r => [some ⟨81, 11, r.map cOrder⟩], ok_laws_toOrderS a⟩
end Go.Proofs.YtooikkfldddjfaaGreat

/- The mirror of laws.szOrderS, and that the code does just that (printed by a program of my own). -/
namespace Go.Proofs.YtooikkfldddjfaaGreat
set_option maxRecDepth 10000
open Go.RowKit
set_option linter.unusedVariables false
set_option maxHeartbeats 16000000
def m_laws_szOrderS_b0 (a : List YOrder) (s0 : Int × Int) : Option ((Int × Int) ⊕ (Int ⊕ Int)) :=
 cond (decide (s0.2 < (a.length : Int)))
 ((getI a s0.2).bind fun y1 =>
 (m_laws_szOrder y1 s0.1).bind fun y2 =>
 cond (decide (y2 < 0))
 (some (.inr (.inr (-1))))
 (some (.inl (y2, (w64 (s0.2 + 1))))))
 (some (.inr (.inl s0.1)))
instance (a : List YOrder) : LoopE (m_laws_szOrderS_b0 a) := ⟨fun s0 => [.sl (a.map cOrder), vi s0.1, .un, .un, .un, vi s0.2, .un, .un, .un, .un, .un, .un, .un, .un, .un, .un, .un, .un, .un, .un, .un, .un, .un, .un, .un, .un, .un], fun s0 => []⟩
def m_laws_szOrderS (a : List YOrder) (left : Int) : Option Int :=
 cond (decide ((w64 (left - (a.length : Int))) < 0))
 (some (-1))
 ((iterF (m_laws_szOrderS_b0 a) NN ((w64 (left - (a.length : Int))), 0)).bind (selim (fun o0 =>
 some o0) (fun r => some r)))
theorem ok_laws_szOrderS (a : List YOrder) (left : Int) {r : Int} (H : m_laws_szOrderS a left = some r) : CallM Tryz.prog 38 [.sl (a.map cOrder), vi left] [] (vi r) [] := by
  replace H := H0 H
  unfold m_laws_szOrderS at H
  refine callM_of Tryz.func38 rfl Tryz.ntmps38 Tryz.results38 fun Q hQ hQn => ?_
  exact wk
instance (a : List YOrder) (left : Int) : CT Tryz.prog (m_laws_szOrderS a left) := ⟨38, [.sl (a.map cOrder), vi left], [], fun r => vi r, fun r => [], ok_laws_szOrderS a left⟩
end Go.Proofs.YtooikkfldddjfaaGreat

/- The mirror of laws.eqBooking, and that the code does just that (printed by a program of my own). -/
namespace Go.Proofs.YtooikkfldddjfaaGreat
set_option maxRecDepth 10000
open Go.RowKit
set_option linter.unusedVariables false
set_option maxHeartbeats 16000000
def m_laws_eqBooking (a : YBooking) (b : YBooking) : Option Bool :=
 cond (!decide (a.thing = b.thing))
 (some false)
 ((m_laws_eqTrip a.trip b.trip).bind fun y1 =>
 cond (!y1)
 (some false)
 (cond (!decide (a.weight = b.weight))
 (some false)
 (some true)))
theorem ok_laws_eqBooking (a : YBooking) (b : YBooking) {r : Bool} (H : m_laws_eqBooking a b = some r) : CallM Tryz.prog 113 [.ag (cBooking a), .ag (cBooking b)] [] (vb r) [] := by
  replace H := H0 H
  unfold m_laws_eqBooking at H
  refine callM_of Tryz.func113 rfl Tryz.ntmps113 Tryz.results113 fun Q hQ hQn => ?_
  exact wk
instance (a : YBooking) (b : YBooking) : CT Tryz.prog (m_laws_eqBooking a b) := ⟨113, [.ag (cBooking a), .ag (cBooking b)], [], fun r => vb r, fun r => [], ok_laws_eqBooking a b⟩
end Go.Proofs.YtooikkfldddjfaaGreat

/- The mirror of laws.toBooking, and that the code does just that (printed by a program of my own). -/
namespace Go.Proofs.YtooikkfldddjfaaGreat
set_option maxRecDepth 10000
open Go.RowKit
set_option linter.unusedVariables false
set_option maxHeartbeats 16000000
def m_laws_toBooking (a : YBooking) : Option YBooking :=
 (m_laws_toTrip a.trip).bind fun y1 =>
 some (⟨a.thing, y1, a.weight⟩ : YBooking)
theorem ok_laws_toBooking (a : YBooking) {r : YBooking} (H : m_laws_toBooking a = some r) : CallM Tryz.prog 99 [.ag (cBooking a)] [] (.ag [vi r.thing, vi r.trip.leg, vi r.trip.day, vi r.weight]) [] := by
  replace H := H0 H
  unfold m_laws_toBooking at H
  refine callM_of Tryz.func99 rfl Tryz.ntmps99 Tryz.results99 fun Q hQ hQn => ?_
  exact wk
instance (a : YBooking) : CT Tryz.prog (m_laws_toBooking a) := ⟨99, [.ag (cBooking a)], [], fun r => .ag [vi r.thing, vi r.trip.leg, vi r.trip.day, vi r.weight], fun r => [], ok_laws_toBooking a⟩
end Go.Proofs.YtooikkfldddjfaaGreat

/- The mirror of laws.eqBookingS, and that the code does just that (printed by a program of my own). -/
namespace Go.Proofs.YtooikkfldddjfaaGreat
set_option maxRecDepth 10000
open Go.RowKit
set_option linter.unusedVariables false
set_option maxHeartbeats 16000000
def m_laws_eqBookingS_b0 (a : List YBooking) (b : List YBooking) (s0 : Int) : Option (Int ⊕ (Unit ⊕ Bool)) :=
 cond (decide (s0 < (a.length : Int)))
 ((getI a s0).bind fun y1 =>
 (getI b s0).bind fun y2 =>
 (m_laws_eqBooking y1 y2).bind fun y3 =>
 cond (!y3)
 (some (.inr (.inr false)))
 (some (.inl (w64 (s0 + 1)))))
 (some (.inr (.inl ())))
instance (a : List YBooking) (b : List YBooking) : LoopE (m_laws_eqBookingS_b0 a b) := ⟨fun s0 => [.sl (a.map cBooking), .sl (b.map cBooking), .un, .un, .un, vi s0, .un, .un, .un, .un, .un, .un, .un, .un, .un, .un, .un, .un, .un, .un, .un, .un, .un, .un, .un, .un, .un], fun s0 => []⟩
def m_laws_eqBookingS (a : List YBooking) (b : List YBooking) : Option Bool :=
 cond (!decide ((a.length : Int) = (b.length : Int)))
 (some false)
 ((iterF (m_laws_eqBookingS_b0 a b) NN 0).bind (selim (fun o0 =>
 some true) (fun r => some r)))
theorem ok_laws_eqBookingS (a : List YBooking) (b : List YBooking) {r : Bool} (H : m_laws_eqBookingS a b = some r) : CallM Tryz.prog 61 [.sl (a.map cBooking), .sl (b.map cBooking)] [] (vb r) [] := by
  replace H := H0 H
  unfold m_laws_eqBookingS at H
  refine callM_of Tryz.func61 rfl Tryz.ntmps61 Tryz.results61 fun Q hQ hQn => ?_
  exact wk
instance (a : List YBooking) (b : List YBooking) : CT Tryz.prog (m_laws_eqBookingS a b) := ⟨61, [.sl (a.map cBooking), .sl (b.map cBooking)], [], fun r => vb r, fun r => [], ok_laws_eqBookingS a b⟩
end Go.Proofs.YtooikkfldddjfaaGreat

/- The mirror of laws.toBookingS, and that the code does just that (printed by a program of my own). -/
namespace Go.Proofs.YtooikkfldddjfaaGreat
set_option maxRecDepth 10000
open Go.RowKit
set_option linter.unusedVariables false
set_option maxHeartbeats 16000000
def m_laws_toBookingS_b0 (a : List YBooking) (s0 : Int × (List YBooking)) : Option ((Int × (List YBooking)) ⊕ (List YBooking)) :=
 cond (decide (s0.1 < (a.length : Int)))
 ((getI a s0.1).bind fun y1 =>
 (m_laws_toBooking y1).bind fun y2 =>
 (getI s0.2 s0.1).bind fun y3 =>
 some (.inl ((w64 (s0.1 + 1)), (s0.2.set (Int.toNat s0.1) y2))))
 (some (.inr s0.2))
instance (a : List YBooking) : LoopE (m_laws_toBookingS_b0 a) := ⟨fun s0 => [.sl (a.map cBooking), .un, .un, .ms 0, vi s0.1, .un, .un, .un, .un, .un, .un, .un, .un, .un, .un, .un, .un, .un, .un, .un, .un, .un, .un], fun s0 => [some ⟨114, 4, s0.2.map cBooking⟩]⟩
def m_laws_toBookingS (a : List YBooking) : Option (List YBooking) :=
 (chk (mkOk (a.length : Int) 32)).bind fun _ =>
 (iterF (m_laws_toBookingS_b0 a) NN (0, (List.replicate (Int.toNat (a.length : Int)) (⟨0, (⟨0, 0⟩ : YTrip), 0⟩ : YBooking)))).bind (fun o0 =>
 some o0)
theorem ok_laws_toBookingS (a : List YBooking) {r : (List YBooking)} (H : m_laws_toBookingS a = some r) : CallM Tryz.prog 50 [.sl (a.map cBooking)] [] (.ms 0) [some ⟨114, 4, r.map cBooking⟩] := by
  replace H := H0 H
  unfold m_laws_toBookingS at H
  refine callM_of Tryz.func50 rfl Tryz.ntmps50 Tryz.results50 fun Q hQ hQn => ?_
  exact wk
instance (a : List YBooking) : CT Tryz.prog (m_laws_toBookingS a) := ⟨50, [.sl (a.map cBooking)], [], fun r => .ms 0, fun r => [some ⟨114, 4, r.map cBooking⟩], ok_laws_toBookingS a⟩
end Go.Proofs.YtooikkfldddjfaaGreat

/- The mirror of laws.szBookingS, and that the code does just that (printed by a program of my own). -/
namespace Go.Proofs.YtooikkfldddjfaaGreat
set_option maxRecDepth 10000
open Go.RowKit
set_option linter.unusedVariables false
set_option maxHeartbeats 16000000
def m_laws_szBookingS (a : List YBooking) (left : Int) : Option Int :=
 cond (decide ((w64 (left - (a.length : Int))) < 0))
 (some (-1))
 (some (w64 (left - (a.length : Int))))
theorem ok_laws_szBookingS (a : List YBooking) (left : Int) {r : Int} (H : m_laws_szBookingS a left = some r) : CallM Tryz.prog 39 [.sl (a.map cBooking), vi left] [] (vi r) [] := by
  replace H := H0 H
  unfold m_laws_szBookingS at H
  refine callM_of Tryz.func39 rfl Tryz.ntmps39 Tryz.results39 fun Q hQ hQn => ?_
  exact wk
instance (a : List YBooking) (left : Int) : CT Tryz.prog (m_laws_szBookingS a left) := ⟨39, [.sl (a.map cBooking), vi left], [], fun r => vi r, fun r => [], ok_laws_szBookingS a left⟩
end Go.Proofs.YtooikkfldddjfaaGreat

/- The mirror of laws.eqScan, and that the code does just that (printed by a program of my own). -/
namespace Go.Proofs.YtooikkfldddjfaaGreat
set_option maxRecDepth 10000
open Go.RowKit
set_option linter.unusedVariables false
set_option maxHeartbeats 16000000
def m_laws_eqScan (a : YScan) (b : YScan) : Option Bool :=
 cond (!decide (a.thing = b.thing))
 (some false)
 (cond (!decide (a.at_ = b.at_))
 (some false)
 (cond (!decide (a.kind = b.kind))
 (some false)
 (cond (!decide (a.place = b.place))
 (some false)
 ((m_laws_eqTrip a.trip b.trip).bind fun y1 =>
 cond (!y1)
 (some false)
 (some true)))))
theorem ok_laws_eqScan (a : YScan) (b : YScan) {r : Bool} (H : m_laws_eqScan a b = some r) : CallM Tryz.prog 115 [.ag (cScan a), .ag (cScan b)] [] (vb r) [] := by
  replace H := H0 H
  unfold m_laws_eqScan at H
  refine callM_of Tryz.func115 rfl Tryz.ntmps115 Tryz.results115 fun Q hQ hQn => ?_
  exact wk
instance (a : YScan) (b : YScan) : CT Tryz.prog (m_laws_eqScan a b) := ⟨115, [.ag (cScan a), .ag (cScan b)], [], fun r => vb r, fun r => [], ok_laws_eqScan a b⟩
end Go.Proofs.YtooikkfldddjfaaGreat

/- The mirror of laws.toScan, and that the code does just that (printed by a program of my own). -/
namespace Go.Proofs.YtooikkfldddjfaaGreat
set_option maxRecDepth 10000
open Go.RowKit
set_option linter.unusedVariables false
set_option maxHeartbeats 16000000
def m_laws_toScan (a : YScan) : Option YScan :=
 (m_laws_toTrip a.trip).bind fun y1 =>
 some (⟨a.thing, a.at_, a.kind, a.place, y1⟩ : YScan)
theorem ok_laws_toScan (a : YScan) {r : YScan} (H : m_laws_toScan a = some r) : CallM Tryz.prog 100 [.ag (cScan a)] [] (.ag [vi r.thing, vi r.at_, vi r.kind, vs r.place, vi r.trip.leg, vi r.trip.day]) [] := by
  replace H := H0 H
  unfold m_laws_toScan at H
  refine callM_of Tryz.func100 rfl Tryz.ntmps100 Tryz.results100 fun Q hQ hQn => ?_
  exact wk
instance (a : YScan) : CT Tryz.prog (m_laws_toScan a) := ⟨100, [.ag (cScan a)], [], fun r => .ag [vi r.thing, vi r.at_, vi r.kind, vs r.place, vi r.trip.leg, vi r.trip.day], fun r => [], ok_laws_toScan a⟩
end Go.Proofs.YtooikkfldddjfaaGreat

/- The mirror of laws.szScan, and that the code does just that (printed by a program of my own). -/
namespace Go.Proofs.YtooikkfldddjfaaGreat
set_option maxRecDepth 10000
open Go.RowKit
set_option linter.unusedVariables false
set_option maxHeartbeats 16000000
def m_laws_szScan (a : YScan) (left : Int) : Option Int :=
 cond (decide ((w64 (left - (a.place.size : Int))) < 0))
 (some (-1))
 (some (w64 (left - (a.place.size : Int))))
theorem ok_laws_szScan (a : YScan) (left : Int) {r : Int} (H : m_laws_szScan a left = some r) : CallM Tryz.prog 86 [.ag (cScan a), vi left] [] (vi r) [] := by
  replace H := H0 H
  unfold m_laws_szScan at H
  refine callM_of Tryz.func86 rfl Tryz.ntmps86 Tryz.results86 fun Q hQ hQn => ?_
  exact wk
instance (a : YScan) (left : Int) : CT Tryz.prog (m_laws_szScan a left) := ⟨86, [.ag (cScan a), vi left], [], fun r => vi r, fun r => [], ok_laws_szScan a left⟩
end Go.Proofs.YtooikkfldddjfaaGreat

/- The mirror of laws.eqScanS, and that the code does just that (printed by a program of my own). -/
namespace Go.Proofs.YtooikkfldddjfaaGreat
set_option maxRecDepth 10000
open Go.RowKit
set_option linter.unusedVariables false
set_option maxHeartbeats 16000000
def m_laws_eqScanS_b0 (a : List YScan) (b : List YScan) (s0 : Int) : Option (Int ⊕ (Unit ⊕ Bool)) :=
 cond (decide (s0 < (a.length : Int)))
 ((getI a s0).bind fun y1 =>
 (getI b s0).bind fun y2 =>
 (m_laws_eqScan y1 y2).bind fun y3 =>
 cond (!y3)
 (some (.inr (.inr false)))
 (some (.inl (w64 (s0 + 1)))))
 (some (.inr (.inl ())))
instance (a : List YScan) (b : List YScan) : LoopE (m_laws_eqScanS_b0 a b) := ⟨fun s0 => [.sl (a.map cScan), .sl (b.map cScan), .un, .un, .un, vi s0, .un, .un, .un, .un, .un, .un, .un, .un, .un, .un, .un, .un, .un, .un, .un, .un, .un, .un, .un, .un, .un], fun s0 => []⟩
def m_laws_eqScanS (a : List YScan) (b : List YScan) : Option Bool :=
 cond (!decide ((a.length : Int) = (b.length : Int)))
 (some false)
 ((iterF (m_laws_eqScanS_b0 a b) NN 0).bind (selim (fun o0 =>
 some true) (fun r => some r)))
theorem ok_laws_eqScanS (a : List YScan) (b : List YScan) {r : Bool} (H : m_laws_eqScanS a b = some r) : CallM Tryz.prog 63 [.sl (a.map cScan), .sl (b.map cScan)] [] (vb r) [] := by
  replace H := H0 H
  unfold m_laws_eqScanS at H
  refine callM_of Tryz.func63 rfl Tryz.ntmps63 Tryz.results63 fun Q hQ hQn => ?_
  exact wk
instance (a : List YScan) (b : List YScan) : CT Tryz.prog (m_laws_eqScanS a b) := ⟨63, [.sl (a.map cScan), .sl (b.map cScan)], [], fun r => vb r, fun r => [], ok_laws_eqScanS a b⟩
end Go.Proofs.YtooikkfldddjfaaGreat

/- The mirror of laws.toScanS, and that the code does just that (printed by a program of my own). -/
namespace Go.Proofs.YtooikkfldddjfaaGreat
set_option maxRecDepth 10000
open Go.RowKit
set_option linter.unusedVariables false
set_option maxHeartbeats 16000000
def m_laws_toScanS_b0 (a : List YScan) (s0 : Int × (List YScan)) : Option ((Int × (List YScan)) ⊕ (List YScan)) :=
 cond (decide (s0.1 < (a.length : Int)))
 ((getI a s0.1).bind fun y1 =>
 (m_laws_toScan y1).bind fun y2 =>
 (getI s0.2 s0.1).bind fun y3 =>
 some (.inl ((w64 (s0.1 + 1)), (s0.2.set (Int.toNat s0.1) y2))))
 (some (.inr s0.2))
instance (a : List YScan) : LoopE (m_laws_toScanS_b0 a) := ⟨fun s0 => [.sl (a.map cScan), .un, .un, .ms 0, vi s0.1, .un, .un, .un, .un, .un, .un, .un, .un, .un, .un, .un, .un, .un, .un, .un, .un, .un, .un], fun s0 => [some ⟨78, 6, s0.2.map cScan⟩]⟩
def m_laws_toScanS (a : List YScan) : Option (List YScan) :=
 (chk (mkOk (a.length : Int) 56)).bind fun _ =>
 (iterF (m_laws_toScanS_b0 a) NN (0, (List.replicate (Int.toNat (a.length : Int)) (⟨0, 0, 0, ⟨#[]⟩, (⟨0, 0⟩ : YTrip)⟩ : YScan)))).bind (fun o0 =>
 some o0)
theorem ok_laws_toScanS (a : List YScan) {r : (List YScan)} (H : m_laws_toScanS a = some r) : CallM Tryz.prog 52 [.sl (a.map cScan)] [] (.ms 0) [some ⟨78, 6, r.map cScan⟩] := by
  replace H := H0 H
  unfold m_laws_toScanS at H
  refine callM_of Tryz.func52 rfl Tryz.ntmps52 Tryz.results52 fun Q hQ hQn => ?_
  exact wk
instance (a : List YScan) : CT Tryz.prog (m_laws_toScanS a) := ⟨52, [.sl (a.map cScan)], [], fun r => .ms 0, fun r => [some ⟨78, 6, r.map cScan⟩], ok_laws_toScanS a⟩
end Go.Proofs.YtooikkfldddjfaaGreat

/- The mirror of laws.szScanS, and that the code does just that (printed by a program of my own). -/
namespace Go.Proofs.YtooikkfldddjfaaGreat
set_option maxRecDepth 10000
open Go.RowKit
set_option linter.unusedVariables false
set_option maxHeartbeats 16000000
def m_laws_szScanS_b0 (a : List YScan) (s0 : Int × Int) : Option ((Int × Int) ⊕ (Int ⊕ Int)) :=
 cond (decide (s0.2 < (a.length : Int)))
 ((getI a s0.2).bind fun y1 =>
 (m_laws_szScan y1 s0.1).bind fun y2 =>
 cond (decide (y2 < 0))
 (some (.inr (.inr (-1))))
 (some (.inl (y2, (w64 (s0.2 + 1))))))
 (some (.inr (.inl s0.1)))
instance (a : List YScan) : LoopE (m_laws_szScanS_b0 a) := ⟨fun s0 => [.sl (a.map cScan), vi s0.1, .un, .un, .un, vi s0.2, .un, .un, .un, .un, .un, .un, .un, .un, .un, .un, .un, .un, .un, .un, .un, .un, .un, .un, .un, .un, .un], fun s0 => []⟩
def m_laws_szScanS (a : List YScan) (left : Int) : Option Int :=
 cond (decide ((w64 (left - (a.length : Int))) < 0))
 (some (-1))
 ((iterF (m_laws_szScanS_b0 a) NN ((w64 (left - (a.length : Int))), 0)).bind (selim (fun o0 =>
 some o0) (fun r => some r)))
theorem ok_laws_szScanS (a : List YScan) (left : Int) {r : Int} (H : m_laws_szScanS a left = some r) : CallM Tryz.prog 41 [.sl (a.map cScan), vi left] [] (vi r) [] := by
  replace H := H0 H
  unfold m_laws_szScanS at H
  refine callM_of Tryz.func41 rfl Tryz.ntmps41 Tryz.results41 fun Q hQ hQn => ?_
  exact wk
instance (a : List YScan) (left : Int) : CT Tryz.prog (m_laws_szScanS a left) := ⟨41, [.sl (a.map cScan), vi left], [], fun r => vi r, fun r => [], ok_laws_szScanS a left⟩
end Go.Proofs.YtooikkfldddjfaaGreat

/- The mirror of laws.eqWorld, and that the code does just that (printed by a program of my own). -/
namespace Go.Proofs.YtooikkfldddjfaaGreat
set_option maxRecDepth 10000
open Go.RowKit
set_option linter.unusedVariables false
set_option maxHeartbeats 16000000
def m_laws_eqWorld (a : YWorld) (b : YWorld) : Option Bool :=
 (m_laws_eqNetwork a.network b.network).bind fun y1 =>
 cond (!y1)
 (some false)
 ((m_laws_eqOrderS a.orders b.orders).bind fun y2 =>
 cond (!y2)
 (some false)
 ((m_laws_eqBookingS a.bookings b.bookings).bind fun y3 =>
 cond (!y3)
 (some false)
 ((m_laws_eqTripS a.closed b.closed).bind fun y4 =>
 cond (!y4)
 (some false)
 (cond (!decide (a.now = b.now))
 (some false)
 ((m_laws_eqScanS a.scans b.scans).bind fun y5 =>
 cond (!y5)
 (some false)
 ((m_laws_eqIntS a.skip b.skip).bind fun y6 =>
 cond (!y6)
 (some false)
 (cond (!decide (a.made = b.made))
 (some false)
 (some true))))))))
theorem ok_laws_eqWorld (a : YWorld) (b : YWorld) {r : Bool} (H : m_laws_eqWorld a b = some r) : CallM Tryz.prog 14 [.ag (cWorld a), .ag (cWorld b)] [] (vb r) [] := by
  replace H := H0 H
  unfold m_laws_eqWorld at H
  refine callM_of Tryz.func14 rfl Tryz.ntmps14 Tryz.results14 fun Q hQ hQn => ?_
  exact wk
instance (a : YWorld) (b : YWorld) : CT Tryz.prog (m_laws_eqWorld a b) := ⟨14, [.ag (cWorld a), .ag (cWorld b)], [], fun r => vb r, fun r => [], ok_laws_eqWorld a b⟩
end Go.Proofs.YtooikkfldddjfaaGreat

/- The mirror of laws.toWorld, and that the code does just that (printed by a program of my own). -/
namespace Go.Proofs.YtooikkfldddjfaaGreat
set_option maxRecDepth 10000
open Go.RowKit
set_option linter.unusedVariables false
set_option maxHeartbeats 16000000
def m_laws_toWorld (a : YWorld) : Option YWorld :=
 (m_laws_toNetwork a.network).bind fun y1 =>
 (m_laws_toOrderS a.orders).bind fun y2 =>
 (m_laws_toBookingS a.bookings).bind fun y3 =>
 (m_laws_toTripS a.closed).bind fun y4 =>
 (m_laws_toScanS a.scans).bind fun y5 =>
 (m_laws_toIntS a.skip).bind fun y6 =>
 some (⟨y1, y2, y3, y4, a.now, y5, y6, a.made⟩ : YWorld)
theorem ok_laws_toWorld (a : YWorld) {r : YWorld} (H : m_laws_toWorld a = some r) : CallM Tryz.prog 12 [.ag (cWorld a)] [] (.ag [.sl (r.network.legs.map cLeg), .sl (r.network.off.map cInt), vi r.network.change, .sl (r.orders.map cOrder), .sl (r.bookings.map cBooking), .sl (r.closed.map cTrip), vi r.now, .sl (r.scans.map cScan), .sl (r.skip.map cInt), vi r.made]) [] := by
  replace H := H0 H
  unfold m_laws_toWorld at H
  refine callM_of Tryz.func12 rfl Tryz.ntmps12 Tryz.results12 fun Q hQ hQn => ?_
  exact wk
instance (a : YWorld) : CT Tryz.prog (m_laws_toWorld a) := ⟨12, [.ag (cWorld a)], [], fun r => .ag [.sl (r.network.legs.map cLeg), .sl (r.network.off.map cInt), vi r.network.change, .sl (r.orders.map cOrder), .sl (r.bookings.map cBooking), .sl (r.closed.map cTrip), vi r.now, .sl (r.scans.map cScan), .sl (r.skip.map cInt), vi r.made], fun r => [], ok_laws_toWorld a⟩
end Go.Proofs.YtooikkfldddjfaaGreat

/- The mirror of laws.szWorld, and that the code does just that (printed by a program of my own). -/
namespace Go.Proofs.YtooikkfldddjfaaGreat
set_option maxRecDepth 10000
open Go.RowKit
set_option linter.unusedVariables false
set_option maxHeartbeats 16000000
def m_laws_szWorld (a : YWorld) (left : Int) : Option Int :=
 (m_laws_szNetwork a.network left).bind fun y1 =>
 cond (decide (y1 < 0))
 (some (-1))
 ((m_laws_szOrderS a.orders y1).bind fun y2 =>
 cond (decide (y2 < 0))
 (some (-1))
 ((m_laws_szBookingS a.bookings y2).bind fun y3 =>
 cond (decide (y3 < 0))
 (some (-1))
 ((m_laws_szTripS a.closed y3).bind fun y4 =>
 cond (decide (y4 < 0))
 (some (-1))
 ((m_laws_szScanS a.scans y4).bind fun y5 =>
 cond (decide (y5 < 0))
 (some (-1))
 ((m_laws_szIntS a.skip y5).bind fun y6 =>
 cond (decide (y6 < 0))
 (some (-1))
 (some y6))))))
theorem ok_laws_szWorld (a : YWorld) (left : Int) {r : Int} (H : m_laws_szWorld a left = some r) : CallM Tryz.prog 10 [.ag (cWorld a), vi left] [] (vi r) [] := by
  replace H := H0 H
  unfold m_laws_szWorld at H
  refine callM_of Tryz.func10 rfl Tryz.ntmps10 Tryz.results10 fun Q hQ hQn => ?_
  exact wk
instance (a : YWorld) (left : Int) : CT Tryz.prog (m_laws_szWorld a left) := ⟨10, [.ag (cWorld a), vi left], [], fun r => vi r, fun r => [], ok_laws_szWorld a left⟩
end Go.Proofs.YtooikkfldddjfaaGreat

/- What the mirrors of the laws' own functions answer (printed by wip/genplain.py). -/
namespace Go.Proofs.YtooikkfldddjfaaGreat
set_option maxRecDepth 10000
open Go.RowKit
set_option linter.unusedVariables false
set_option linter.unusedSimpArgs false
theorem mkOk_of {n : Nat} {b : Int} (h : n ≤ 1048576) (hb : 0 ≤ b) (hb2 : b ≤ 134217728) : mkOk (n : Int) b = true := by
  refine decide_eq_true ⟨by omega, by omega, ?_⟩
  have : b * (n : Int) ≤ 134217728 * 1048576 := Int.mul_le_mul hb2 (by omega) (by omega) (by omega)
  omega
theorem totS_len {α : Type} (f : α → Nat) (xs : List α) : xs.length ≤ totS f xs := by unfold totS; omega
theorem totS_mem {α : Type} (f : α → Nat) {xs : List α} {y : α} (h : y ∈ xs) : f y ≤ totS f xs := by
  have : f y ≤ (xs.map f).sum := by
    induction xs with
    | nil => cases h
    | cons x xs ih =>
      simp only [List.map_cons, List.sum_cons]
      rcases List.mem_cons.1 h with rfl | h
      · omega
      · have := ih h; omega
  unfold totS; omega
theorem iter_sz {α : Type} {xs : List α} {f : α → Nat} {body : Int × Int → Option ((Int × Int) ⊕ (Int ⊕ Int))}
    (h1 : ∀ (i : Nat) (l : Int) x, xs[i]? = some x → 0 ≤ l → l ≤ 1048576 → body (l, (i : Int)) = some (if l < f x then .inr (.inr (-1)) else .inl (l - f x, ((i + 1 : Nat) : Int))))
    (h2 : ∀ l, body (l, (xs.length : Int)) = some (.inr (.inl l))) (hN : xs.length < NN) {l : Int} (hl : 0 ≤ l) (hl2 : l ≤ 1048576) :
    iterF body NN (l, 0) = some (if l < ((xs.map f).sum : Nat) then .inr (-1) else .inl (l - ((xs.map f).sum : Nat))) := by
  have key : ∀ (ys : List α) (i N : Nat) (l : Int), xs.drop i = ys → i ≤ xs.length → ys.length < N → 0 ≤ l → l ≤ 1048576 → iterF body N (l, (i : Int)) = some (if l < ((ys.map f).sum : Nat) then .inr (-1) else .inl (l - ((ys.map f).sum : Nat))) := by
    intro ys
    induction ys with
    | nil =>
      intro i N l hd hi hN h0 h1'
      cases N with
      | zero => omega
      | succ N =>
        have : i = xs.length := by have := congrArg List.length hd; simp at this; omega
        subst this
        simp only [iterF, h2]
        show some (Sum.inl l) = _
        rw [if_neg (by simp; omega)]; simp
    | cons y ys ih =>
      intro i N l hd hi hN h0 h1'
      cases N with
      | zero => simp at hN
      | succ N =>
        have hy : xs[i]? = some y := by
          have := congrArg (fun l => l[0]?) hd
          simpa using this
        have hlt : i < xs.length := (List.getElem?_eq_some_iff.1 hy).1
        have hd' : xs.drop (i + 1) = ys := by
          have := congrArg (List.drop 1) hd
          simpa [List.drop_drop] using this
        simp only [iterF, h1 i l y hy h0 h1', List.map_cons, List.sum_cons]
        by_cases hc : l < f y
        · rw [if_pos hc, if_pos (by omega)]; rfl
        · rw [if_neg hc]
          show iterF body N (l - f y, ((i + 1 : Nat) : Int)) = _
          rw [ih (i + 1) N _ hd' hlt (by simp at hN; omega) (by omega) (by omega)]
          by_cases hc2 : l - f y < ((ys.map f).sum : Nat)
          · rw [if_pos hc2, if_pos (by omega)]
          · rw [if_neg hc2, if_neg (by omega)]; congr 2; omega
  exact key xs 0 NN l rfl (Nat.zero_le _) hN hl hl2
theorem szTo_nn {l : Int} {n : Nat} (h : ¬ szTo l n < 0) (h0 : 0 ≤ l) : (n : Int) ≤ l ∧ szTo l n = l - n := by
  rcases szTo_spec l n with ⟨_, e⟩ | ⟨h1, e⟩
  · rw [e] at h; omega
  · exact ⟨h1, e⟩
theorem eqr_Leg (x : YLeg) (h : totLeg x ≤ 1048576) : m_laws_eqLeg x x = some true := by
  simp [m_laws_eqLeg]
theorem cpy_Leg (x : YLeg) (h : totLeg x ≤ 1048576) : m_laws_toLeg x = some x := by
  simp [m_laws_toLeg]
theorem sz_Leg (x : YLeg) {left : Int} (h0 : 0 ≤ left) (h1 : left ≤ 1048576) (ok : okLeg x) : m_laws_szLeg x left = some (szTo left (totLeg x)) := by
  obtain ⟨k0, k1, k2, k3, k4, k5⟩ := ok
  have ht : totLeg x = x.from_.size + x.to_.size := rfl
  unfold m_laws_szLeg
  unfold okStr maxLen at k0
  rw [w64_in (by omega)]
  by_cases c0 : left - ((x.from_.size : Nat) : Int) < 0
  · rw [decide_eq_true c0]; show some (-1) = _; rw [ht]; rcases szTo_spec left (x.from_.size + x.to_.size) with ⟨h, e⟩ | ⟨h, e⟩; · rw [e]
    omega
  rw [decide_eq_false c0]; simp only [cond_false]
  obtain ⟨l1, hl1⟩ : ∃ l : Int, l = left - ((x.from_.size : Nat) : Int) := ⟨_, rfl⟩
  rw [← hl1]
  unfold okStr maxLen at k1
  rw [w64_in (by omega)]
  by_cases c1 : l1 - ((x.to_.size : Nat) : Int) < 0
  · rw [decide_eq_true c1]; show some (-1) = _; rw [ht]; rcases szTo_spec left (x.from_.size + x.to_.size) with ⟨h, e⟩ | ⟨h, e⟩; · rw [e]
    omega
  rw [decide_eq_false c1]; simp only [cond_false]
  obtain ⟨l2, hl2⟩ : ∃ l : Int, l = l1 - ((x.to_.size : Nat) : Int) := ⟨_, rfl⟩
  rw [← hl2]
  rw [ht]; rcases szTo_spec left (x.from_.size + x.to_.size) with ⟨h, e⟩ | ⟨h, e⟩
  · omega
  · rw [e]; (first | (congr 1; omega) | congr 1)
theorem eqr_LegS (a : List YLeg) (hl : a.length ≤ 1048576) (he : ∀ x ∈ a, m_laws_eqLeg x x = some true) : m_laws_eqLegS a a = some true := by
  have e : iterF (m_laws_eqLegS_b0 a a) NN 0 = some (.inl ()) := by
    refine iter_pass (xs := a) (fun i x hx => ?_) ?_ (by unfold NN; omega)
    · obtain ⟨hi, rfl⟩ := List.getElem?_eq_some_iff.1 hx
      have hw := w64_nat hi (by omega)
      have hx2 := he _ (List.mem_of_getElem? hx)
      simp [m_laws_eqLegS_b0, getI_nat, hx, hi, hw, hx2]
    · simp [m_laws_eqLegS_b0]
  unfold m_laws_eqLegS; simp [e]
theorem cpy_LegS (a : List YLeg) (hl : a.length ≤ 1048576) (he : ∀ x ∈ a, m_laws_toLeg x = some x) : m_laws_toLegS a = some a := by
  have e : ∀ z, iterF (m_laws_toLegS_b0 a) NN (0, List.replicate a.length z) = some a := by
    intro z
    refine iter_copy (fun i out x hx ho => ?_) (fun out => ?_) (by unfold NN; omega)
    · obtain ⟨hi, rfl⟩ := List.getElem?_eq_some_iff.1 hx
      have hw := w64_nat hi (by omega)
      have hx3 : out[i]? = some out[i] := List.getElem?_eq_getElem (by omega)
      have hx2 := he _ (List.mem_of_getElem? hx)
      simp [m_laws_toLegS_b0, getI_nat, hx, hx3, hi, hw, hx2]
    · simp [m_laws_toLegS_b0]
  unfold m_laws_toLegS; rw [chk_t (mkOk_of hl (by decide) (by decide))]; simp [e]
theorem sz_LegS (a : List YLeg) {left : Int} (h0 : 0 ≤ left) (h1 : left ≤ 1048576) (hl : a.length ≤ maxLen) (he : ∀ x ∈ a, ∀ l : Int, 0 ≤ l → l ≤ 1048576 → m_laws_szLeg x l = some (szTo l (totLeg x))) : m_laws_szLegS a left = some (szTo left (totS totLeg a)) := by
  unfold maxLen at hl
  unfold m_laws_szLegS
  rw [w64_in (by omega)]
  by_cases hc : left - (a.length : Int) < 0
  · rw [decide_eq_true hc]; show some (-1) = _
    rcases szTo_spec left (totS totLeg a) with ⟨h, e⟩ | ⟨h, e⟩
    · rw [e]
    · have := totS_len totLeg a; omega
  · rw [decide_eq_false hc]
    have e : iterF (m_laws_szLegS_b0 a) NN (left - (a.length : Int), 0) = some (if left - (a.length : Int) < ((a.map totLeg).sum : Nat) then .inr (-1) else .inl (left - (a.length : Int) - ((a.map totLeg).sum : Nat))) := by
      refine iter_sz (fun i l x hx h0 h1 => ?_) (fun l => ?_) (by unfold NN; omega) (by omega) (by omega)
      · obtain ⟨hi, rfl⟩ := List.getElem?_eq_some_iff.1 hx
        have hw := w64_nat hi (by omega)
        have hx2 := he _ (List.mem_of_getElem? hx) l h0 h1
        rcases szTo_spec l (totLeg a[i]) with ⟨h, e⟩ | ⟨h, e⟩
        · rw [e] at hx2; rw [if_pos h]; simp [m_laws_szLegS_b0, getI_nat, hx, hi, hx2]
        · rw [e] at hx2; rw [if_neg (by omega)]; simp [m_laws_szLegS_b0, getI_nat, hx, hi, hx2, hw, show ¬ (l - (totLeg a[i] : Int) < 0) by omega]
      · simp [m_laws_szLegS_b0]
    show (iterF (m_laws_szLegS_b0 a) NN (left - (a.length : Int), 0)).bind _ = _
    rw [e]
    have ht : totS totLeg a = a.length + (a.map totLeg).sum := rfl
    rcases szTo_spec left (totS totLeg a) with ⟨h, e⟩ | ⟨h, e⟩
    · rw [e, if_pos (by omega)]; rfl
    · rw [e, if_neg (by omega)]; show some _ = some _; congr 1; omega
theorem eqr_IntS (a : List Int) (hl : a.length ≤ 1048576) : m_laws_eqIntS a a = some true := by
  have e : iterF (m_laws_eqIntS_b0 a a) NN 0 = some (.inl ()) := by
    refine iter_pass (xs := a) (fun i x hx => ?_) ?_ (by unfold NN; omega)
    · obtain ⟨hi, rfl⟩ := List.getElem?_eq_some_iff.1 hx
      have hw := w64_nat hi (by omega)
      simp [m_laws_eqIntS_b0, getI_nat, hx, hi, hw]
    · simp [m_laws_eqIntS_b0]
  unfold m_laws_eqIntS; simp [e]
theorem cpy_IntS (a : List Int) (hl : a.length ≤ 1048576) : m_laws_toIntS a = some a := by
  have e : ∀ z, iterF (m_laws_toIntS_b0 a) NN (0, List.replicate a.length z) = some a := by
    intro z
    refine iter_copy (fun i out x hx ho => ?_) (fun out => ?_) (by unfold NN; omega)
    · obtain ⟨hi, rfl⟩ := List.getElem?_eq_some_iff.1 hx
      have hw := w64_nat hi (by omega)
      have hx3 : out[i]? = some out[i] := List.getElem?_eq_getElem (by omega)
      simp [m_laws_toIntS_b0, getI_nat, hx, hx3, hi, hw]
    · simp [m_laws_toIntS_b0]
  unfold m_laws_toIntS; rw [chk_t (mkOk_of hl (by decide) (by decide))]; simp [e]
theorem sz_IntS (a : List Int) {left : Int} (h0 : 0 ≤ left) (h1 : left ≤ 1048576) (hl : a.length ≤ maxLen) : m_laws_szIntS a left = some (szTo left a.length) := by
  unfold maxLen at hl
  unfold m_laws_szIntS
  rw [w64_in (by omega)]
  rcases szTo_spec left a.length with ⟨h, e⟩ | ⟨h, e⟩
  · rw [e, decide_eq_true (by omega)]; rfl
  · rw [e, decide_eq_false (by omega)]; rfl
theorem eqr_Network (x : YNetwork) (h : totNetwork x ≤ 1048576) : m_laws_eqNetwork x x = some true := by
  have e0 := eqr_LegS x.legs (by unfold totNetwork at h; have := totS_len totLeg x.legs; omega) (fun y hy => eqr_Leg y (by unfold totNetwork at h; have := totS_mem totLeg hy; omega))
  have e1 := eqr_IntS x.off (by unfold totNetwork at h; have := totS_len totLeg x.legs; omega)
  simp [m_laws_eqNetwork, e0, e1]
theorem cpy_Network (x : YNetwork) (h : totNetwork x ≤ 1048576) : m_laws_toNetwork x = some x := by
  have e0 := cpy_LegS x.legs (by unfold totNetwork at h; have := totS_len totLeg x.legs; omega) (fun y hy => cpy_Leg y (by unfold totNetwork at h; have := totS_mem totLeg hy; omega))
  have e1 := cpy_IntS x.off (by unfold totNetwork at h; have := totS_len totLeg x.legs; omega)
  simp [m_laws_toNetwork, e0, e1]
theorem sz_Network (x : YNetwork) {left : Int} (h0 : 0 ≤ left) (h1 : left ≤ 1048576) (ok : okNetwork x) : m_laws_szNetwork x left = some (szTo left (totNetwork x)) := by
  obtain ⟨k0, k1, k2⟩ := ok
  have ht : totNetwork x = totS totLeg x.legs + x.off.length := rfl
  unfold m_laws_szNetwork
  rw [sz_LegS x.legs (by omega) (by omega) k0.1 (fun y hy l g0 g1 => sz_Leg y g0 g1 (k0.2 y hy))]; simp only [Option.bind_some]
  by_cases c0 : szTo left (totS totLeg x.legs) < 0
  · rw [decide_eq_true c0]; show some (-1) = _; rw [ht]; rcases szTo_spec left (totS totLeg x.legs) with ⟨h2, e2⟩ | ⟨h2, e2⟩; rcases szTo_spec left (totS totLeg x.legs + x.off.length) with ⟨h, e⟩ | ⟨h, e⟩; · rw [e]
    all_goals omega
  rw [decide_eq_false c0]; simp only [cond_false]
  obtain ⟨d0, e0⟩ := szTo_nn c0 (by omega)
  rw [e0]
  obtain ⟨l1, hl1⟩ : ∃ l : Int, l = left - ((totS totLeg x.legs : Nat) : Int) := ⟨_, rfl⟩
  rw [← hl1]
  rw [sz_IntS x.off (by omega) (by omega) k1.1]; simp only [Option.bind_some]
  by_cases c1 : szTo l1 (x.off.length) < 0
  · rw [decide_eq_true c1]; show some (-1) = _; rw [ht]; rcases szTo_spec l1 (x.off.length) with ⟨h2, e2⟩ | ⟨h2, e2⟩; rcases szTo_spec left (totS totLeg x.legs + x.off.length) with ⟨h, e⟩ | ⟨h, e⟩; · rw [e]
    all_goals omega
  rw [decide_eq_false c1]; simp only [cond_false]
  obtain ⟨d1, e1⟩ := szTo_nn c1 (by omega)
  rw [e1]
  obtain ⟨l2, hl2⟩ : ∃ l : Int, l = l1 - ((x.off.length : Nat) : Int) := ⟨_, rfl⟩
  rw [← hl2]
  rw [ht]; rcases szTo_spec left (totS totLeg x.legs + x.off.length) with ⟨h, e⟩ | ⟨h, e⟩
  · omega
  · rw [e]; (first | (congr 1; omega) | congr 1)
theorem eqr_Trip (x : YTrip) : m_laws_eqTrip x x = some true := by
  simp [m_laws_eqTrip]
theorem cpy_Trip (x : YTrip) : m_laws_toTrip x = some x := by
  simp [m_laws_toTrip]
theorem eqr_TripS (a : List YTrip) (hl : a.length ≤ 1048576) (he : ∀ x ∈ a, m_laws_eqTrip x x = some true) : m_laws_eqTripS a a = some true := by
  have e : iterF (m_laws_eqTripS_b0 a a) NN 0 = some (.inl ()) := by
    refine iter_pass (xs := a) (fun i x hx => ?_) ?_ (by unfold NN; omega)
    · obtain ⟨hi, rfl⟩ := List.getElem?_eq_some_iff.1 hx
      have hw := w64_nat hi (by omega)
      have hx2 := he _ (List.mem_of_getElem? hx)
      simp [m_laws_eqTripS_b0, getI_nat, hx, hi, hw, hx2]
    · simp [m_laws_eqTripS_b0]
  unfold m_laws_eqTripS; simp [e]
theorem cpy_TripS (a : List YTrip) (hl : a.length ≤ 1048576) (he : ∀ x ∈ a, m_laws_toTrip x = some x) : m_laws_toTripS a = some a := by
  have e : ∀ z, iterF (m_laws_toTripS_b0 a) NN (0, List.replicate a.length z) = some a := by
    intro z
    refine iter_copy (fun i out x hx ho => ?_) (fun out => ?_) (by unfold NN; omega)
    · obtain ⟨hi, rfl⟩ := List.getElem?_eq_some_iff.1 hx
      have hw := w64_nat hi (by omega)
      have hx3 : out[i]? = some out[i] := List.getElem?_eq_getElem (by omega)
      have hx2 := he _ (List.mem_of_getElem? hx)
      simp [m_laws_toTripS_b0, getI_nat, hx, hx3, hi, hw, hx2]
    · simp [m_laws_toTripS_b0]
  unfold m_laws_toTripS; rw [chk_t (mkOk_of hl (by decide) (by decide))]; simp [e]
theorem sz_TripS (a : List YTrip) {left : Int} (h0 : 0 ≤ left) (h1 : left ≤ 1048576) (hl : a.length ≤ maxLen) : m_laws_szTripS a left = some (szTo left a.length) := by
  unfold maxLen at hl
  unfold m_laws_szTripS
  rw [w64_in (by omega)]
  rcases szTo_spec left a.length with ⟨h, e⟩ | ⟨h, e⟩
  · rw [e, decide_eq_true (by omega)]; rfl
  · rw [e, decide_eq_false (by omega)]; rfl
theorem eqr_Order (x : YOrder) (h : totOrder x ≤ 1048576) : m_laws_eqOrder x x = some true := by
  have e0 := eqr_TripS x.way (by unfold totOrder at h; omega) (fun y hy => eqr_Trip y)
  simp [m_laws_eqOrder, e0]
theorem cpy_Order (x : YOrder) (h : totOrder x ≤ 1048576) : m_laws_toOrder x = some x := by
  have e0 := cpy_TripS x.way (by unfold totOrder at h; omega) (fun y hy => cpy_Trip y)
  simp [m_laws_toOrder, e0]
theorem sz_Order (x : YOrder) {left : Int} (h0 : 0 ≤ left) (h1 : left ≤ 1048576) (ok : okOrder x) : m_laws_szOrder x left = some (szTo left (totOrder x)) := by
  obtain ⟨k0, k1, k2, k3, k4, k5, k6, k7, k8, k9, k10⟩ := ok
  have ht : totOrder x = x.from_.size + x.to_.size + x.way.length + x.place.size := rfl
  unfold m_laws_szOrder
  unfold okStr maxLen at k0
  rw [w64_in (by omega)]
  by_cases c0 : left - ((x.from_.size : Nat) : Int) < 0
  · rw [decide_eq_true c0]; show some (-1) = _; rw [ht]; rcases szTo_spec left (x.from_.size + x.to_.size + x.way.length + x.place.size) with ⟨h, e⟩ | ⟨h, e⟩; · rw [e]
    omega
  rw [decide_eq_false c0]; simp only [cond_false]
  obtain ⟨l1, hl1⟩ : ∃ l : Int, l = left - ((x.from_.size : Nat) : Int) := ⟨_, rfl⟩
  rw [← hl1]
  unfold okStr maxLen at k1
  rw [w64_in (by omega)]
  by_cases c1 : l1 - ((x.to_.size : Nat) : Int) < 0
  · rw [decide_eq_true c1]; show some (-1) = _; rw [ht]; rcases szTo_spec left (x.from_.size + x.to_.size + x.way.length + x.place.size) with ⟨h, e⟩ | ⟨h, e⟩; · rw [e]
    omega
  rw [decide_eq_false c1]; simp only [cond_false]
  obtain ⟨l2, hl2⟩ : ∃ l : Int, l = l1 - ((x.to_.size : Nat) : Int) := ⟨_, rfl⟩
  rw [← hl2]
  rw [sz_TripS x.way (by omega) (by omega) k6.1]; simp only [Option.bind_some]
  by_cases c2 : szTo l2 (x.way.length) < 0
  · rw [decide_eq_true c2]; show some (-1) = _; rw [ht]; rcases szTo_spec l2 (x.way.length) with ⟨h2, e2⟩ | ⟨h2, e2⟩; rcases szTo_spec left (x.from_.size + x.to_.size + x.way.length + x.place.size) with ⟨h, e⟩ | ⟨h, e⟩; · rw [e]
    all_goals omega
  rw [decide_eq_false c2]; simp only [cond_false]
  obtain ⟨d2, e2⟩ := szTo_nn c2 (by omega)
  rw [e2]
  obtain ⟨l3, hl3⟩ : ∃ l : Int, l = l2 - ((x.way.length : Nat) : Int) := ⟨_, rfl⟩
  rw [← hl3]
  unfold okStr maxLen at k9
  rw [w64_in (by omega)]
  by_cases c3 : l3 - ((x.place.size : Nat) : Int) < 0
  · rw [decide_eq_true c3]; show some (-1) = _; rw [ht]; rcases szTo_spec left (x.from_.size + x.to_.size + x.way.length + x.place.size) with ⟨h, e⟩ | ⟨h, e⟩; · rw [e]
    omega
  rw [decide_eq_false c3]; simp only [cond_false]
  obtain ⟨l4, hl4⟩ : ∃ l : Int, l = l3 - ((x.place.size : Nat) : Int) := ⟨_, rfl⟩
  rw [← hl4]
  rw [ht]; rcases szTo_spec left (x.from_.size + x.to_.size + x.way.length + x.place.size) with ⟨h, e⟩ | ⟨h, e⟩
  · omega
  · rw [e]; (first | (congr 1; omega) | congr 1)
theorem eqr_OrderS (a : List YOrder) (hl : a.length ≤ 1048576) (he : ∀ x ∈ a, m_laws_eqOrder x x = some true) : m_laws_eqOrderS a a = some true := by
  have e : iterF (m_laws_eqOrderS_b0 a a) NN 0 = some (.inl ()) := by
    refine iter_pass (xs := a) (fun i x hx => ?_) ?_ (by unfold NN; omega)
    · obtain ⟨hi, rfl⟩ := List.getElem?_eq_some_iff.1 hx
      have hw := w64_nat hi (by omega)
      have hx2 := he _ (List.mem_of_getElem? hx)
      simp [m_laws_eqOrderS_b0, getI_nat, hx, hi, hw, hx2]
    · simp [m_laws_eqOrderS_b0]
  unfold m_laws_eqOrderS; simp [e]
theorem cpy_OrderS (a : List YOrder) (hl : a.length ≤ 1048576) (he : ∀ x ∈ a, m_laws_toOrder x = some x) : m_laws_toOrderS a = some a := by
  have e : ∀ z, iterF (m_laws_toOrderS_b0 a) NN (0, List.replicate a.length z) = some a := by
    intro z
    refine iter_copy (fun i out x hx ho => ?_) (fun out => ?_) (by unfold NN; omega)
    · obtain ⟨hi, rfl⟩ := List.getElem?_eq_some_iff.1 hx
      have hw := w64_nat hi (by omega)
      have hx3 : out[i]? = some out[i] := List.getElem?_eq_getElem (by omega)
      have hx2 := he _ (List.mem_of_getElem? hx)
      simp [m_laws_toOrderS_b0, getI_nat, hx, hx3, hi, hw, hx2]
    · simp [m_laws_toOrderS_b0]
  unfold m_laws_toOrderS; rw [chk_t (mkOk_of hl (by decide) (by decide))]; simp [e]
theorem sz_OrderS (a : List YOrder) {left : Int} (h0 : 0 ≤ left) (h1 : left ≤ 1048576) (hl : a.length ≤ maxLen) (he : ∀ x ∈ a, ∀ l : Int, 0 ≤ l → l ≤ 1048576 → m_laws_szOrder x l = some (szTo l (totOrder x))) : m_laws_szOrderS a left = some (szTo left (totS totOrder a)) := by
  unfold maxLen at hl
  unfold m_laws_szOrderS
  rw [w64_in (by omega)]
  by_cases hc : left - (a.length : Int) < 0
  · rw [decide_eq_true hc]; show some (-1) = _
    rcases szTo_spec left (totS totOrder a) with ⟨h, e⟩ | ⟨h, e⟩
    · rw [e]
    · have := totS_len totOrder a; omega
  · rw [decide_eq_false hc]
    have e : iterF (m_laws_szOrderS_b0 a) NN (left - (a.length : Int), 0) = some (if left - (a.length : Int) < ((a.map totOrder).sum : Nat) then .inr (-1) else .inl (left - (a.length : Int) - ((a.map totOrder).sum : Nat))) := by
      refine iter_sz (fun i l x hx h0 h1 => ?_) (fun l => ?_) (by unfold NN; omega) (by omega) (by omega)
      · obtain ⟨hi, rfl⟩ := List.getElem?_eq_some_iff.1 hx
        have hw := w64_nat hi (by omega)
        have hx2 := he _ (List.mem_of_getElem? hx) l h0 h1
        rcases szTo_spec l (totOrder a[i]) with ⟨h, e⟩ | ⟨h, e⟩
        · rw [e] at hx2; rw [if_pos h]; simp [m_laws_szOrderS_b0, getI_nat, hx, hi, hx2]
        · rw [e] at hx2; rw [if_neg (by omega)]; simp [m_laws_szOrderS_b0, getI_nat, hx, hi, hx2, hw, show ¬ (l - (totOrder a[i] : Int) < 0) by omega]
      · simp [m_laws_szOrderS_b0]
    show (iterF (m_laws_szOrderS_b0 a) NN (left - (a.length : Int), 0)).bind _ = _
    rw [e]
    have ht : totS totOrder a = a.length + (a.map totOrder).sum := rfl
    rcases szTo_spec left (totS totOrder a) with ⟨h, e⟩ | ⟨h, e⟩
    · rw [e, if_pos (by omega)]; rfl
    · rw [e, if_neg (by omega)]; show some _ = some _; congr 1; omega
theorem eqr_Booking (x : YBooking) : m_laws_eqBooking x x = some true := by
  have e0 := eqr_Trip x.trip
  simp [m_laws_eqBooking, e0]
theorem cpy_Booking (x : YBooking) : m_laws_toBooking x = some x := by
  have e0 := cpy_Trip x.trip
  simp [m_laws_toBooking, e0]
theorem eqr_BookingS (a : List YBooking) (hl : a.length ≤ 1048576) (he : ∀ x ∈ a, m_laws_eqBooking x x = some true) : m_laws_eqBookingS a a = some true := by
  have e : iterF (m_laws_eqBookingS_b0 a a) NN 0 = some (.inl ()) := by
    refine iter_pass (xs := a) (fun i x hx => ?_) ?_ (by unfold NN; omega)
    · obtain ⟨hi, rfl⟩ := List.getElem?_eq_some_iff.1 hx
      have hw := w64_nat hi (by omega)
      have hx2 := he _ (List.mem_of_getElem? hx)
      simp [m_laws_eqBookingS_b0, getI_nat, hx, hi, hw, hx2]
    · simp [m_laws_eqBookingS_b0]
  unfold m_laws_eqBookingS; simp [e]
theorem cpy_BookingS (a : List YBooking) (hl : a.length ≤ 1048576) (he : ∀ x ∈ a, m_laws_toBooking x = some x) : m_laws_toBookingS a = some a := by
  have e : ∀ z, iterF (m_laws_toBookingS_b0 a) NN (0, List.replicate a.length z) = some a := by
    intro z
    refine iter_copy (fun i out x hx ho => ?_) (fun out => ?_) (by unfold NN; omega)
    · obtain ⟨hi, rfl⟩ := List.getElem?_eq_some_iff.1 hx
      have hw := w64_nat hi (by omega)
      have hx3 : out[i]? = some out[i] := List.getElem?_eq_getElem (by omega)
      have hx2 := he _ (List.mem_of_getElem? hx)
      simp [m_laws_toBookingS_b0, getI_nat, hx, hx3, hi, hw, hx2]
    · simp [m_laws_toBookingS_b0]
  unfold m_laws_toBookingS; rw [chk_t (mkOk_of hl (by decide) (by decide))]; simp [e]
theorem sz_BookingS (a : List YBooking) {left : Int} (h0 : 0 ≤ left) (h1 : left ≤ 1048576) (hl : a.length ≤ maxLen) : m_laws_szBookingS a left = some (szTo left a.length) := by
  unfold maxLen at hl
  unfold m_laws_szBookingS
  rw [w64_in (by omega)]
  rcases szTo_spec left a.length with ⟨h, e⟩ | ⟨h, e⟩
  · rw [e, decide_eq_true (by omega)]; rfl
  · rw [e, decide_eq_false (by omega)]; rfl
theorem eqr_Scan (x : YScan) (h : totScan x ≤ 1048576) : m_laws_eqScan x x = some true := by
  have e0 := eqr_Trip x.trip
  simp [m_laws_eqScan, e0]
theorem cpy_Scan (x : YScan) (h : totScan x ≤ 1048576) : m_laws_toScan x = some x := by
  have e0 := cpy_Trip x.trip
  simp [m_laws_toScan, e0]
theorem sz_Scan (x : YScan) {left : Int} (h0 : 0 ≤ left) (h1 : left ≤ 1048576) (ok : okScan x) : m_laws_szScan x left = some (szTo left (totScan x)) := by
  obtain ⟨k0, k1, k2, k3, k4⟩ := ok
  have ht : totScan x = x.place.size := rfl
  unfold m_laws_szScan
  unfold okStr maxLen at k3
  rw [w64_in (by omega)]
  by_cases c0 : left - ((x.place.size : Nat) : Int) < 0
  · rw [decide_eq_true c0]; show some (-1) = _; rw [ht]; rcases szTo_spec left (x.place.size) with ⟨h, e⟩ | ⟨h, e⟩; · rw [e]
    omega
  rw [decide_eq_false c0]; simp only [cond_false]
  obtain ⟨l1, hl1⟩ : ∃ l : Int, l = left - ((x.place.size : Nat) : Int) := ⟨_, rfl⟩
  rw [← hl1]
  rw [ht]; rcases szTo_spec left (x.place.size) with ⟨h, e⟩ | ⟨h, e⟩
  · omega
  · rw [e]; (first | (congr 1; omega) | congr 1)
theorem eqr_ScanS (a : List YScan) (hl : a.length ≤ 1048576) (he : ∀ x ∈ a, m_laws_eqScan x x = some true) : m_laws_eqScanS a a = some true := by
  have e : iterF (m_laws_eqScanS_b0 a a) NN 0 = some (.inl ()) := by
    refine iter_pass (xs := a) (fun i x hx => ?_) ?_ (by unfold NN; omega)
    · obtain ⟨hi, rfl⟩ := List.getElem?_eq_some_iff.1 hx
      have hw := w64_nat hi (by omega)
      have hx2 := he _ (List.mem_of_getElem? hx)
      simp [m_laws_eqScanS_b0, getI_nat, hx, hi, hw, hx2]
    · simp [m_laws_eqScanS_b0]
  unfold m_laws_eqScanS; simp [e]
theorem cpy_ScanS (a : List YScan) (hl : a.length ≤ 1048576) (he : ∀ x ∈ a, m_laws_toScan x = some x) : m_laws_toScanS a = some a := by
  have e : ∀ z, iterF (m_laws_toScanS_b0 a) NN (0, List.replicate a.length z) = some a := by
    intro z
    refine iter_copy (fun i out x hx ho => ?_) (fun out => ?_) (by unfold NN; omega)
    · obtain ⟨hi, rfl⟩ := List.getElem?_eq_some_iff.1 hx
      have hw := w64_nat hi (by omega)
      have hx3 : out[i]? = some out[i] := List.getElem?_eq_getElem (by omega)
      have hx2 := he _ (List.mem_of_getElem? hx)
      simp [m_laws_toScanS_b0, getI_nat, hx, hx3, hi, hw, hx2]
    · simp [m_laws_toScanS_b0]
  unfold m_laws_toScanS; rw [chk_t (mkOk_of hl (by decide) (by decide))]; simp [e]
theorem sz_ScanS (a : List YScan) {left : Int} (h0 : 0 ≤ left) (h1 : left ≤ 1048576) (hl : a.length ≤ maxLen) (he : ∀ x ∈ a, ∀ l : Int, 0 ≤ l → l ≤ 1048576 → m_laws_szScan x l = some (szTo l (totScan x))) : m_laws_szScanS a left = some (szTo left (totS totScan a)) := by
  unfold maxLen at hl
  unfold m_laws_szScanS
  rw [w64_in (by omega)]
  by_cases hc : left - (a.length : Int) < 0
  · rw [decide_eq_true hc]; show some (-1) = _
    rcases szTo_spec left (totS totScan a) with ⟨h, e⟩ | ⟨h, e⟩
    · rw [e]
    · have := totS_len totScan a; omega
  · rw [decide_eq_false hc]
    have e : iterF (m_laws_szScanS_b0 a) NN (left - (a.length : Int), 0) = some (if left - (a.length : Int) < ((a.map totScan).sum : Nat) then .inr (-1) else .inl (left - (a.length : Int) - ((a.map totScan).sum : Nat))) := by
      refine iter_sz (fun i l x hx h0 h1 => ?_) (fun l => ?_) (by unfold NN; omega) (by omega) (by omega)
      · obtain ⟨hi, rfl⟩ := List.getElem?_eq_some_iff.1 hx
        have hw := w64_nat hi (by omega)
        have hx2 := he _ (List.mem_of_getElem? hx) l h0 h1
        rcases szTo_spec l (totScan a[i]) with ⟨h, e⟩ | ⟨h, e⟩
        · rw [e] at hx2; rw [if_pos h]; simp [m_laws_szScanS_b0, getI_nat, hx, hi, hx2]
        · rw [e] at hx2; rw [if_neg (by omega)]; simp [m_laws_szScanS_b0, getI_nat, hx, hi, hx2, hw, show ¬ (l - (totScan a[i] : Int) < 0) by omega]
      · simp [m_laws_szScanS_b0]
    show (iterF (m_laws_szScanS_b0 a) NN (left - (a.length : Int), 0)).bind _ = _
    rw [e]
    have ht : totS totScan a = a.length + (a.map totScan).sum := rfl
    rcases szTo_spec left (totS totScan a) with ⟨h, e⟩ | ⟨h, e⟩
    · rw [e, if_pos (by omega)]; rfl
    · rw [e, if_neg (by omega)]; show some _ = some _; congr 1; omega
theorem eqr_World (x : YWorld) (h : totWorld x ≤ 1048576) : m_laws_eqWorld x x = some true := by
  have e0 := eqr_Network x.network (by unfold totWorld at h; have := totS_len totOrder x.orders; have := totS_len totScan x.scans; omega)
  have e1 := eqr_OrderS x.orders (by unfold totWorld at h; have := totS_len totOrder x.orders; have := totS_len totScan x.scans; omega) (fun y hy => eqr_Order y (by unfold totWorld at h; have := totS_mem totOrder hy; omega))
  have e2 := eqr_BookingS x.bookings (by unfold totWorld at h; have := totS_len totOrder x.orders; have := totS_len totScan x.scans; omega) (fun y hy => eqr_Booking y)
  have e3 := eqr_TripS x.closed (by unfold totWorld at h; have := totS_len totOrder x.orders; have := totS_len totScan x.scans; omega) (fun y hy => eqr_Trip y)
  have e4 := eqr_ScanS x.scans (by unfold totWorld at h; have := totS_len totOrder x.orders; have := totS_len totScan x.scans; omega) (fun y hy => eqr_Scan y (by unfold totWorld at h; have := totS_mem totScan hy; omega))
  have e5 := eqr_IntS x.skip (by unfold totWorld at h; have := totS_len totOrder x.orders; have := totS_len totScan x.scans; omega)
  simp [m_laws_eqWorld, e0, e1, e2, e3, e4, e5]
theorem cpy_World (x : YWorld) (h : totWorld x ≤ 1048576) : m_laws_toWorld x = some x := by
  have e0 := cpy_Network x.network (by unfold totWorld at h; have := totS_len totOrder x.orders; have := totS_len totScan x.scans; omega)
  have e1 := cpy_OrderS x.orders (by unfold totWorld at h; have := totS_len totOrder x.orders; have := totS_len totScan x.scans; omega) (fun y hy => cpy_Order y (by unfold totWorld at h; have := totS_mem totOrder hy; omega))
  have e2 := cpy_BookingS x.bookings (by unfold totWorld at h; have := totS_len totOrder x.orders; have := totS_len totScan x.scans; omega) (fun y hy => cpy_Booking y)
  have e3 := cpy_TripS x.closed (by unfold totWorld at h; have := totS_len totOrder x.orders; have := totS_len totScan x.scans; omega) (fun y hy => cpy_Trip y)
  have e4 := cpy_ScanS x.scans (by unfold totWorld at h; have := totS_len totOrder x.orders; have := totS_len totScan x.scans; omega) (fun y hy => cpy_Scan y (by unfold totWorld at h; have := totS_mem totScan hy; omega))
  have e5 := cpy_IntS x.skip (by unfold totWorld at h; have := totS_len totOrder x.orders; have := totS_len totScan x.scans; omega)
  simp [m_laws_toWorld, e0, e1, e2, e3, e4, e5]
theorem sz_World (x : YWorld) {left : Int} (h0 : 0 ≤ left) (h1 : left ≤ 1048576) (ok : okWorld x) : m_laws_szWorld x left = some (szTo left (totWorld x)) := by
  obtain ⟨k0, k1, k2, k3, k4, k5, k6, k7⟩ := ok
  have ht : totWorld x = totNetwork x.network + totS totOrder x.orders + x.bookings.length + x.closed.length + totS totScan x.scans + x.skip.length := rfl
  unfold m_laws_szWorld
  rw [sz_Network x.network (by omega) (by omega) k0]; simp only [Option.bind_some]
  by_cases c0 : szTo left (totNetwork x.network) < 0
  · rw [decide_eq_true c0]; show some (-1) = _; rw [ht]; rcases szTo_spec left (totNetwork x.network) with ⟨h2, e2⟩ | ⟨h2, e2⟩; rcases szTo_spec left (totNetwork x.network + totS totOrder x.orders + x.bookings.length + x.closed.length + totS totScan x.scans + x.skip.length) with ⟨h, e⟩ | ⟨h, e⟩; · rw [e]
    all_goals omega
  rw [decide_eq_false c0]; simp only [cond_false]
  obtain ⟨d0, e0⟩ := szTo_nn c0 (by omega)
  rw [e0]
  obtain ⟨l1, hl1⟩ : ∃ l : Int, l = left - ((totNetwork x.network : Nat) : Int) := ⟨_, rfl⟩
  rw [← hl1]
  rw [sz_OrderS x.orders (by omega) (by omega) k1.1 (fun y hy l g0 g1 => sz_Order y g0 g1 (k1.2 y hy))]; simp only [Option.bind_some]
  by_cases c1 : szTo l1 (totS totOrder x.orders) < 0
  · rw [decide_eq_true c1]; show some (-1) = _; rw [ht]; rcases szTo_spec l1 (totS totOrder x.orders) with ⟨h2, e2⟩ | ⟨h2, e2⟩; rcases szTo_spec left (totNetwork x.network + totS totOrder x.orders + x.bookings.length + x.closed.length + totS totScan x.scans + x.skip.length) with ⟨h, e⟩ | ⟨h, e⟩; · rw [e]
    all_goals omega
  rw [decide_eq_false c1]; simp only [cond_false]
  obtain ⟨d1, e1⟩ := szTo_nn c1 (by omega)
  rw [e1]
  obtain ⟨l2, hl2⟩ : ∃ l : Int, l = l1 - ((totS totOrder x.orders : Nat) : Int) := ⟨_, rfl⟩
  rw [← hl2]
  rw [sz_BookingS x.bookings (by omega) (by omega) k2.1]; simp only [Option.bind_some]
  by_cases c2 : szTo l2 (x.bookings.length) < 0
  · rw [decide_eq_true c2]; show some (-1) = _; rw [ht]; rcases szTo_spec l2 (x.bookings.length) with ⟨h2, e2⟩ | ⟨h2, e2⟩; rcases szTo_spec left (totNetwork x.network + totS totOrder x.orders + x.bookings.length + x.closed.length + totS totScan x.scans + x.skip.length) with ⟨h, e⟩ | ⟨h, e⟩; · rw [e]
    all_goals omega
  rw [decide_eq_false c2]; simp only [cond_false]
  obtain ⟨d2, e2⟩ := szTo_nn c2 (by omega)
  rw [e2]
  obtain ⟨l3, hl3⟩ : ∃ l : Int, l = l2 - ((x.bookings.length : Nat) : Int) := ⟨_, rfl⟩
  rw [← hl3]
  rw [sz_TripS x.closed (by omega) (by omega) k3.1]; simp only [Option.bind_some]
  by_cases c3 : szTo l3 (x.closed.length) < 0
  · rw [decide_eq_true c3]; show some (-1) = _; rw [ht]; rcases szTo_spec l3 (x.closed.length) with ⟨h2, e2⟩ | ⟨h2, e2⟩; rcases szTo_spec left (totNetwork x.network + totS totOrder x.orders + x.bookings.length + x.closed.length + totS totScan x.scans + x.skip.length) with ⟨h, e⟩ | ⟨h, e⟩; · rw [e]
    all_goals omega
  rw [decide_eq_false c3]; simp only [cond_false]
  obtain ⟨d3, e3⟩ := szTo_nn c3 (by omega)
  rw [e3]
  obtain ⟨l4, hl4⟩ : ∃ l : Int, l = l3 - ((x.closed.length : Nat) : Int) := ⟨_, rfl⟩
  rw [← hl4]
  rw [sz_ScanS x.scans (by omega) (by omega) k5.1 (fun y hy l g0 g1 => sz_Scan y g0 g1 (k5.2 y hy))]; simp only [Option.bind_some]
  by_cases c4 : szTo l4 (totS totScan x.scans) < 0
  · rw [decide_eq_true c4]; show some (-1) = _; rw [ht]; rcases szTo_spec l4 (totS totScan x.scans) with ⟨h2, e2⟩ | ⟨h2, e2⟩; rcases szTo_spec left (totNetwork x.network + totS totOrder x.orders + x.bookings.length + x.closed.length + totS totScan x.scans + x.skip.length) with ⟨h, e⟩ | ⟨h, e⟩; · rw [e]
    all_goals omega
  rw [decide_eq_false c4]; simp only [cond_false]
  obtain ⟨d4, e4⟩ := szTo_nn c4 (by omega)
  rw [e4]
  obtain ⟨l5, hl5⟩ : ∃ l : Int, l = l4 - ((totS totScan x.scans : Nat) : Int) := ⟨_, rfl⟩
  rw [← hl5]
  rw [sz_IntS x.skip (by omega) (by omega) k6.1]; simp only [Option.bind_some]
  by_cases c5 : szTo l5 (x.skip.length) < 0
  · rw [decide_eq_true c5]; show some (-1) = _; rw [ht]; rcases szTo_spec l5 (x.skip.length) with ⟨h2, e2⟩ | ⟨h2, e2⟩; rcases szTo_spec left (totNetwork x.network + totS totOrder x.orders + x.bookings.length + x.closed.length + totS totScan x.scans + x.skip.length) with ⟨h, e⟩ | ⟨h, e⟩; · rw [e]
    all_goals omega
  rw [decide_eq_false c5]; simp only [cond_false]
  obtain ⟨d5, e5⟩ := szTo_nn c5 (by omega)
  rw [e5]
  obtain ⟨l6, hl6⟩ : ∃ l : Int, l = l5 - ((x.skip.length : Nat) : Int) := ⟨_, rfl⟩
  rw [← hl6]
  rw [ht]; rcases szTo_spec left (totNetwork x.network + totS totOrder x.orders + x.bookings.length + x.closed.length + totS totScan x.scans + x.skip.length) with ⟨h, e⟩ | ⟨h, e⟩
  · omega
  · rw [e]; (first | (congr 1; omega) | congr 1)
end Go.Proofs.YtooikkfldddjfaaGreat

/- The copies that the laws make of their arguments: each slice lies in a block of its own type that the call has made. -/
namespace Go.Proofs.YtooikkfldddjfaaGreat
set_option maxRecDepth 10000
open Go.RowKit
set_option linter.unusedVariables false
set_option linter.unusedSimpArgs false
theorem arg1 {w : World} {S : Nat → Prop} {p : PV} {v : Value} (h : RepC w S p v) : ∀ (i : Nat) (q : PV), [p][i]? = some q → ∃ x, #[v][i]? = some x ∧ Rep w (E1 S (fun _ => none) 0) q x := by
  intro i q hq
  cases i with
  | zero => obtain rfl : p = q := by simpa using hq
            exact ⟨v, rfl, .c h⟩
  | succ i => simp at hq
theorem isC1_Leg (x : YLeg) (p : PV) (hp : p ∈ cLeg x) : isC1 p = true := by
  simp [cLeg] at hp
  rcases hp with rfl | rfl | rfl | rfl | rfl | rfl <;> rfl
theorem isC1_Int (x : Int) (p : PV) (hp : p ∈ cInt x) : isC1 p = true := by
  simp [cInt] at hp
  rcases hp with rfl <;> rfl
theorem isC1_Trip (x : YTrip) (p : PV) (hp : p ∈ cTrip x) : isC1 p = true := by
  simp [cTrip] at hp
  rcases hp with rfl | rfl <;> rfl
theorem isC1_Booking (x : YBooking) (p : PV) (hp : p ∈ cBooking x) : isC1 p = true := by
  simp [cBooking, cTrip] at hp
  rcases hp with rfl | rfl | rfl | rfl <;> rfl
theorem isC1_Scan (x : YScan) (p : PV) (hp : p ∈ cScan x) : isC1 p = true := by
  simp [cScan, cTrip] at hp
  rcases hp with rfl | rfl | rfl | rfl | rfl | rfl <;> rfl
theorem toLegS_w (xs : List YLeg) (he : ∀ x ∈ xs, m_laws_toLeg x = some x) (hl : xs.length ≤ 1048576) {S : Nat → Prop} {v : Value} {w : World} (hS : ∀ b, S b → b < w.heap.size) (hr : RepC w S (.sl (xs.map cLeg)) v) :
    Calls Tryz.prog 76 #[v] w fun e w' => ∃ v', e = .returned v' ∧ Up w w' ∧ ShapeS w' w.heap.size 118 6 v' xs.length ∧ RepC w' (NewS S w w') (.sl (xs.map cLeg)) v' := by
  have h := CallM.fresh (ok_laws_toLegS xs (cpy_LegS xs hl he)) (by intro cs hcs p hp; obtain ⟨x, _, rfl⟩ := List.mem_map.1 hcs; exact isC1_Leg x p hp) hS (vs := #[v]) rfl (arg1 hr)
  simpa only [List.length_map] using h
theorem toIntS_w (xs : List Int) (hl : xs.length ≤ 1048576) {S : Nat → Prop} {v : Value} {w : World} (hS : ∀ b, S b → b < w.heap.size) (hr : RepC w S (.sl (xs.map cInt)) v) :
    Calls Tryz.prog 33 #[v] w fun e w' => ∃ v', e = .returned v' ∧ Up w w' ∧ ShapeS w' w.heap.size 3 1 v' xs.length ∧ RepC w' (NewS S w w') (.sl (xs.map cInt)) v' := by
  have h := CallM.fresh (ok_laws_toIntS xs (cpy_IntS xs hl)) (by intro cs hcs p hp; obtain ⟨x, _, rfl⟩ := List.mem_map.1 hcs; exact isC1_Int x p hp) hS (vs := #[v]) rfl (arg1 hr)
  simpa only [List.length_map] using h
theorem toTripS_w (xs : List YTrip) (he : ∀ x ∈ xs, m_laws_toTrip x = some x) (hl : xs.length ≤ 1048576) {S : Nat → Prop} {v : Value} {w : World} (hS : ∀ b, S b → b < w.heap.size) (hr : RepC w S (.sl (xs.map cTrip)) v) :
    Calls Tryz.prog 51 #[v] w fun e w' => ∃ v', e = .returned v' ∧ Up w w' ∧ ShapeS w' w.heap.size 57 2 v' xs.length ∧ RepC w' (NewS S w w') (.sl (xs.map cTrip)) v' := by
  have h := CallM.fresh (ok_laws_toTripS xs (cpy_TripS xs hl he)) (by intro cs hcs p hp; obtain ⟨x, _, rfl⟩ := List.mem_map.1 hcs; exact isC1_Trip x p hp) hS (vs := #[v]) rfl (arg1 hr)
  simpa only [List.length_map] using h
theorem toBookingS_w (xs : List YBooking) (he : ∀ x ∈ xs, m_laws_toBooking x = some x) (hl : xs.length ≤ 1048576) {S : Nat → Prop} {v : Value} {w : World} (hS : ∀ b, S b → b < w.heap.size) (hr : RepC w S (.sl (xs.map cBooking)) v) :
    Calls Tryz.prog 50 #[v] w fun e w' => ∃ v', e = .returned v' ∧ Up w w' ∧ ShapeS w' w.heap.size 114 4 v' xs.length ∧ RepC w' (NewS S w w') (.sl (xs.map cBooking)) v' := by
  have h := CallM.fresh (ok_laws_toBookingS xs (cpy_BookingS xs hl he)) (by intro cs hcs p hp; obtain ⟨x, _, rfl⟩ := List.mem_map.1 hcs; exact isC1_Booking x p hp) hS (vs := #[v]) rfl (arg1 hr)
  simpa only [List.length_map] using h
theorem toScanS_w (xs : List YScan) (he : ∀ x ∈ xs, m_laws_toScan x = some x) (hl : xs.length ≤ 1048576) {S : Nat → Prop} {v : Value} {w : World} (hS : ∀ b, S b → b < w.heap.size) (hr : RepC w S (.sl (xs.map cScan)) v) :
    Calls Tryz.prog 52 #[v] w fun e w' => ∃ v', e = .returned v' ∧ Up w w' ∧ ShapeS w' w.heap.size 78 6 v' xs.length ∧ RepC w' (NewS S w w') (.sl (xs.map cScan)) v' := by
  have h := CallM.fresh (ok_laws_toScanS xs (cpy_ScanS xs hl he)) (by intro cs hcs p hp; obtain ⟨x, _, rfl⟩ := List.mem_map.1 hcs; exact isC1_Scan x p hp) hS (vs := #[v]) rfl (arg1 hr)
  simpa only [List.length_map] using h
theorem ShapeS.form {w : World} {B : Nat} {T : TypeId} {k : Nat} {v : Value} {n : Nat} (h : ShapeS w B T k v n) : ∃ A c, v = .slice A n c := by
  rcases h with ⟨c, rfl, rfl⟩ | ⟨g, c, cs, rfl, _⟩
  · exact ⟨none, c, rfl⟩
  · exact ⟨_, c, rfl⟩
theorem repc_form {w : World} {S : Nat → Prop} {es : List (List PV)} {v : Value} (h : RepC w S (.sl es) v) : ∃ A c, v = .slice A es.length c := by
  generalize hq : PV.sl es = q at h
  cases h with
  | v x h => cases hq
  | ud => cases hq
  | un => cases hq
  | rp => cases hq
  | fn => cases hq
  | nil A c => obtain rfl : es = [] := by simpa using hq
               exact ⟨A, c, rfl⟩
  | sl es' b off k c u => obtain rfl : es = es' := by simpa using hq
                          exact ⟨_, c, rfl⟩
theorem heap_alloc_old {w : World} {o ob : Obj} {b : Nat} (h : w.heap[b]? = some ob) : (w.alloc o).heap[b]? = some ob := ((Up.al o (Up.rfl' w)).block b (Array.getElem?_eq_some_iff.1 h).1).trans h
theorem heap_alloc_at {w : World} {n : Nat} (hn : n = w.heap.size) (o : Obj) : (w.alloc o).heap[n]? = some o := by subst hn; exact heap_alloc_new w o
theorem ShapeS.sc {w : World} {B : Nat} {T : TypeId} {k : Nat} {v : Value} {n : Nat} (h : ShapeS w B T k v n) {g j : Nat} (hg : g < B) (u : Value) : ShapeS (w.setCell ⟨g, j, none⟩ u) B T k v n := by
  rcases h with h | ⟨b, c, cs, h1, h2, h3, h4⟩
  · exact .inl h
  · exact .inr ⟨b, c, cs, h1, h2, (heap_setCell_other w ⟨g, j, none⟩ b u (by simp only; omega)).trans h3, h4⟩
theorem RepC.sc {w : World} {S : Nat → Prop} {p : PV} {x : Value} (h : RepC w S p x) {g j : Nat} (hg : ∀ b, S b → b ≠ g) (u : Value) : RepC (w.setCell ⟨g, j, none⟩ u) S p x :=
  h.ext (fun _ hb => hb) (fun b q hb => cell_of_heap (heap_setCell_other w ⟨g, j, none⟩ b u (hg b hb)))
/-- An order's cells, its way a slice value. -/
def ordV (o : YOrder) (x : Value) : Array Value := #[.string o.from_, .string o.to_, I o.service, I o.weight, I o.at_, I o.due, x, I o.gone, I o.state, .string o.place, I o.ended]
theorem toOrder_fin {o : YOrder} {S : Nat → Prop} {w wb w1 w2 wf : World} {A : Option Addr} {c : Nat} {O Z c1 c2 : Array Value} (hS : ∀ b, S b → b < w.heap.size) (hub : Up w wb) (hsz : wb.heap.size = w.heap.size + 3) (hu1 : Up wb w1)
    (hs1 : ShapeS w1 wb.heap.size 57 2 (.slice A o.way.length c) o.way.length) (hr1 : RepC w1 (NewS S wb w1) (.sl (o.way.map cTrip)) (.slice A o.way.length c))
    (hO : w1.heap[w.heap.size + 1 + 1]? = some (.cells O 81 (0, 0))) (k1 : Wr (w.heap.size + 1 + 1) 81 w1 w2 c1) (hP : w2.heap[w.heap.size + 1]? = some (.cells Z 81 (0, 0))) (k2 : Wr (w.heap.size + 1) 81 w2 wf c2) :
    Up w wf ∧ ShapeS wf w.heap.size 57 2 (.slice A o.way.length c) o.way.length ∧ RepC wf (NewS S w wf) (.sl (o.way.map cTrip)) (.slice A o.way.length c) := by
  have s1 := hu1.size
  refine ⟨⟨k2.os.trans (k1.os.trans (hu1.os.trans hub.os)), k2.tape.trans (k1.tape.trans (hu1.tape.trans hub.tape)), k2.output.trans (k1.output.trans (hu1.output.trans hub.output)), by rw [k2.size, k1.size]; omega, fun b hb => ?_⟩, ?_, ?_⟩
  · rw [k2.oth b (by omega), k1.oth b (by omega), hu1.block b (by omega), hub.block b hb]
  · exact ((hs1.wr k1 hO (by decide)).wr k2 hP (by decide)).more (by omega)
  · refine ((hr1.wr k1 ?_).wr k2 ?_).ext ?_ (fun _ _ _ => rfl)
    · rintro b (h | h)
      · have := hS b h; omega
      · omega
    · rintro b (h | h)
      · have := hS b h; omega
      · omega
    · rintro b (h | h)
      · exact .inl h
      · exact .inr ⟨by omega, by rw [k2.size, k1.size]; exact h.2⟩
set_option maxHeartbeats 1000000 in
set_option maxRecDepth 100000 in
theorem toOrder_w (o : YOrder) (hl : o.way.length ≤ 1048576) {S : Nat → Prop} {u6 : Value} {w : World} (hS : ∀ b, S b → b < w.heap.size) (hr : RepC w S (.sl (o.way.map cTrip)) u6) :
    Calls Tryz.prog 98 #[.agg #[.string o.from_, .string o.to_, I o.service, I o.weight, I o.at_, I o.due, u6, I o.gone, I o.state, .string o.place, I o.ended]] w fun e w' => ∃ A c, e = .returned (.agg #[.string o.from_, .string o.to_, I o.service, I o.weight, I o.at_, I o.due, .slice A o.way.length c, I o.gone, I o.state, .string o.place, I o.ended]) ∧ Up w w' ∧ ShapeS w' w.heap.size 57 2 (.slice A o.way.length c) o.way.length ∧ RepC w' (NewS S w w') (.sl (o.way.map cTrip)) (.slice A o.way.length c) := by
  obtain ⟨A6, c6, rfl⟩ := repc_form hr
  have hr0 := Lib.hid hr
  clear hr
  go_enter Tryz.func98, Tryz.ntmps98
  go_wp2_with fail
  generalize hwb : World.alloc (World.alloc (World.alloc w _) _) _ = wb
  have hA : wb.heap[w.heap.size]? = some (.cells #[.string o.from_, .string o.to_, I o.service, I o.weight, I o.at_, I o.due, .slice A6 o.way.length c6, I o.gone, I o.state, .string o.place, I o.ended] 108 (0, 0)) := by rw [← hwb]; exact heap_alloc_old (heap_alloc_old (heap_alloc_new w _))
  have hP : wb.heap[w.heap.size + 1]? = some (.cells #[.string ⟨#[]⟩, .string ⟨#[]⟩, I 0, I 0, I 0, I 0, .slice none 0 0, I 0, I 0, .string ⟨#[]⟩, I 0] 81 (0, 0)) := by rw [← hwb]; exact heap_alloc_old (heap_alloc_at (by simp) _)
  have hO : wb.heap[w.heap.size + 1 + 1]? = some (.cells #[.string o.from_, .string o.to_, I o.service, I o.weight, I o.at_, I o.due, .slice none 0 0, I 0, I 0, .string ⟨#[]⟩, I 0] 81 (0, 0)) := by rw [← hwb]; exact heap_alloc_at (by simp) _
  have hub : Up w wb := by rw [← hwb]; (repeat (first | exact Up.rfl' _ | (refine Up.al _ ?_) | (refine Up.dr _ ?_) | (refine Up.dr1 ?_) | (refine Up.sc ?_ (by first | exact Nat.le_refl _ | (simp; done) | omega) _) | (refine Up.step (by assumption) ?_)))
  have hsz : wb.heap.size = w.heap.size + 3 := by rw [← hwb]; simp
  clear hwb
  have hrb : RepC wb S (.sl (o.way.map cTrip)) (.slice A6 o.way.length c6) := by
    have h_ := hr0.out.ext (w' := wb) (S' := S) (fun _ h => h) (fun b q h => hub.cell (p := ⟨b, q, none⟩) (hS b h))
    simpa only [List.length_map] using h_
  refine (toTripS_w o.way (fun x _ => cpy_Trip x) hl (S := S) (fun b h => Nat.lt_of_lt_of_le (hS b h) hub.size) hrb).mono ?_
  rintro e w1 ⟨v', rfl, hu1, hs1, hr1⟩
  obtain ⟨A, c, rfl⟩ := hs1.form
  replace hA := (hu1.block _ (Array.getElem?_eq_some_iff.1 hA).1).trans hA
  replace hP := (hu1.block _ (Array.getElem?_eq_some_iff.1 hP).1).trans hP
  replace hO := (hu1.block _ (Array.getElem?_eq_some_iff.1 hO).1).trans hO
  have a7 : w1.cell? ⟨w.heap.size, 7, none⟩ = some (I o.gone) := by rw [cell_of_row _ _ _ _ _ _ hA]; rfl
  have a8 : w1.cell? ⟨w.heap.size, 8, none⟩ = some (I o.state) := by rw [cell_of_row _ _ _ _ _ _ hA]; rfl
  have a9 : w1.cell? ⟨w.heap.size, 9, none⟩ = some (.string o.place) := by rw [cell_of_row _ _ _ _ _ _ hA]; rfl
  have a10 : w1.cell? ⟨w.heap.size, 10, none⟩ = some (I o.ended) := by rw [cell_of_row _ _ _ _ _ _ hA]; rfl
  have o0 : w1.cell? ⟨w.heap.size + 1 + 1, 0, none⟩ = some (.string o.from_) := by rw [cell_of_row _ _ _ _ _ _ hO]; rfl
  have p0 : w1.cell? ⟨w.heap.size + 1, 0, none⟩ = some (.string ⟨#[]⟩) := by rw [cell_of_row _ _ _ _ _ _ hP]; rfl
  have fp0 : w1.frozen? ⟨w.heap.size + 1, 0, none⟩ = false := frozen_of_row _ _ _ _ _ hP
  have o1 : w1.cell? ⟨w.heap.size + 1 + 1, 1, none⟩ = some (.string o.to_) := by rw [cell_of_row _ _ _ _ _ _ hO]; rfl
  have p1 : w1.cell? ⟨w.heap.size + 1, 1, none⟩ = some (.string ⟨#[]⟩) := by rw [cell_of_row _ _ _ _ _ _ hP]; rfl
  have fp1 : w1.frozen? ⟨w.heap.size + 1, 1, none⟩ = false := frozen_of_row _ _ _ _ _ hP
  have o2 : w1.cell? ⟨w.heap.size + 1 + 1, 2, none⟩ = some (I o.service) := by rw [cell_of_row _ _ _ _ _ _ hO]; rfl
  have p2 : w1.cell? ⟨w.heap.size + 1, 2, none⟩ = some (I 0) := by rw [cell_of_row _ _ _ _ _ _ hP]; rfl
  have fp2 : w1.frozen? ⟨w.heap.size + 1, 2, none⟩ = false := frozen_of_row _ _ _ _ _ hP
  have o3 : w1.cell? ⟨w.heap.size + 1 + 1, 3, none⟩ = some (I o.weight) := by rw [cell_of_row _ _ _ _ _ _ hO]; rfl
  have p3 : w1.cell? ⟨w.heap.size + 1, 3, none⟩ = some (I 0) := by rw [cell_of_row _ _ _ _ _ _ hP]; rfl
  have fp3 : w1.frozen? ⟨w.heap.size + 1, 3, none⟩ = false := frozen_of_row _ _ _ _ _ hP
  have o4 : w1.cell? ⟨w.heap.size + 1 + 1, 4, none⟩ = some (I o.at_) := by rw [cell_of_row _ _ _ _ _ _ hO]; rfl
  have p4 : w1.cell? ⟨w.heap.size + 1, 4, none⟩ = some (I 0) := by rw [cell_of_row _ _ _ _ _ _ hP]; rfl
  have fp4 : w1.frozen? ⟨w.heap.size + 1, 4, none⟩ = false := frozen_of_row _ _ _ _ _ hP
  have o5 : w1.cell? ⟨w.heap.size + 1 + 1, 5, none⟩ = some (I o.due) := by rw [cell_of_row _ _ _ _ _ _ hO]; rfl
  have p5 : w1.cell? ⟨w.heap.size + 1, 5, none⟩ = some (I 0) := by rw [cell_of_row _ _ _ _ _ _ hP]; rfl
  have fp5 : w1.frozen? ⟨w.heap.size + 1, 5, none⟩ = false := frozen_of_row _ _ _ _ _ hP
  have o6 : w1.cell? ⟨w.heap.size + 1 + 1, 6, none⟩ = some (.slice none 0 0) := by rw [cell_of_row _ _ _ _ _ _ hO]; rfl
  have fo6 : w1.frozen? ⟨w.heap.size + 1 + 1, 6, none⟩ = false := frozen_of_row _ _ _ _ _ hO
  have p6 : w1.cell? ⟨w.heap.size + 1, 6, none⟩ = some (.slice none 0 0) := by rw [cell_of_row _ _ _ _ _ _ hP]; rfl
  have fp6 : w1.frozen? ⟨w.heap.size + 1, 6, none⟩ = false := frozen_of_row _ _ _ _ _ hP
  have o7 : w1.cell? ⟨w.heap.size + 1 + 1, 7, none⟩ = some (I 0) := by rw [cell_of_row _ _ _ _ _ _ hO]; rfl
  have fo7 : w1.frozen? ⟨w.heap.size + 1 + 1, 7, none⟩ = false := frozen_of_row _ _ _ _ _ hO
  have p7 : w1.cell? ⟨w.heap.size + 1, 7, none⟩ = some (I 0) := by rw [cell_of_row _ _ _ _ _ _ hP]; rfl
  have fp7 : w1.frozen? ⟨w.heap.size + 1, 7, none⟩ = false := frozen_of_row _ _ _ _ _ hP
  have o8 : w1.cell? ⟨w.heap.size + 1 + 1, 8, none⟩ = some (I 0) := by rw [cell_of_row _ _ _ _ _ _ hO]; rfl
  have fo8 : w1.frozen? ⟨w.heap.size + 1 + 1, 8, none⟩ = false := frozen_of_row _ _ _ _ _ hO
  have p8 : w1.cell? ⟨w.heap.size + 1, 8, none⟩ = some (I 0) := by rw [cell_of_row _ _ _ _ _ _ hP]; rfl
  have fp8 : w1.frozen? ⟨w.heap.size + 1, 8, none⟩ = false := frozen_of_row _ _ _ _ _ hP
  have o9 : w1.cell? ⟨w.heap.size + 1 + 1, 9, none⟩ = some (.string ⟨#[]⟩) := by rw [cell_of_row _ _ _ _ _ _ hO]; rfl
  have fo9 : w1.frozen? ⟨w.heap.size + 1 + 1, 9, none⟩ = false := frozen_of_row _ _ _ _ _ hO
  have p9 : w1.cell? ⟨w.heap.size + 1, 9, none⟩ = some (.string ⟨#[]⟩) := by rw [cell_of_row _ _ _ _ _ _ hP]; rfl
  have fp9 : w1.frozen? ⟨w.heap.size + 1, 9, none⟩ = false := frozen_of_row _ _ _ _ _ hP
  have o10 : w1.cell? ⟨w.heap.size + 1 + 1, 10, none⟩ = some (I 0) := by rw [cell_of_row _ _ _ _ _ _ hO]; rfl
  have fo10 : w1.frozen? ⟨w.heap.size + 1 + 1, 10, none⟩ = false := frozen_of_row _ _ _ _ _ hO
  have p10 : w1.cell? ⟨w.heap.size + 1, 10, none⟩ = some (I 0) := by rw [cell_of_row _ _ _ _ _ _ hP]; rfl
  have fp10 : w1.frozen? ⟨w.heap.size + 1, 10, none⟩ = false := frozen_of_row _ _ _ _ _ hP
  have HU := Lib.hid hu1
  have HS1 := Lib.hid hs1
  have HR1 := Lib.hid hr1
  have HP := Lib.hid hP
  have HO := Lib.hid hO
  have HB := Lib.hid hub
  clear hA hP hO hu1 hs1 hr1 hrb hr0
  go_wp2_with fail
  have kw1 := (((((Wr.start HO.out).set 6 (.slice A o.way.length c)).set 7 (.int .i64 o.gone)).set 8 (.int .i64 o.state)).set 9 (.string o.place)).set 10 (.int .i64 o.ended)
  have hP2 := (kw1.oth (w.heap.size + 1) (by omega)).trans HP.out
  have kw2 := (((((((((((Wr.start hP2).set 0 (.string o.from_)).set 1 (.string o.to_)).set 2 (.int .i64 o.service)).set 3 (.int .i64 o.weight)).set 4 (.int .i64 o.at_)).set 5 (.int .i64 o.due)).set 6 (.slice A o.way.length c)).set 7 (.int .i64 o.gone)).set 8 (.int .i64 o.state)).set 9 (.string o.place)).set 10 (.int .i64 o.ended)
  have HF := toOrder_fin (o := o) hS HB.out hsz HU.out HS1.out HR1.out HO.out kw1 hP2 kw2
  have hrow := kw2.row
  simp only [List.setIfInBounds_toArray, List.set_cons_zero, List.set_cons_succ] at hrow
  exact bodyPost_ret (v := .agg #[.string o.from_, .string o.to_, I o.service, I o.weight, I o.at_, I o.due, .slice A o.way.length c, I o.gone, I o.state, .string o.place, I o.ended]) (results_cell_row Tryz.results98 _ _ (w.heap.size + 1) 81 _ (0, 0) _ rfl hrow Tryz.underlying81 rfl (by kernel_rfl)) rfl ⟨A, c, rfl, HF⟩
end Go.Proofs.YtooikkfldddjfaaGreat

/- The copies that the laws make of orders: each slice lies in a block of its own type that the call has made. -/
namespace Go.Proofs.YtooikkfldddjfaaGreat
set_option maxRecDepth 10000
open Go.RowKit
set_option linter.unusedVariables false
set_option linter.unusedSimpArgs false
theorem info_order : (Tryz.prog.info? 81).map (fun i => (i.zero, i.size, i.bytes)) = some (some (Value.agg #[.string ⟨#[]⟩, .string ⟨#[]⟩, I 0, I 0, I 0, I 0, .slice none 0 0, I 0, I 0, .string ⟨#[]⟩, I 0]), 11, 128) := by kernel_rfl
/-- An argument that reads as_ a list of orders. -/
theorem ordArg {orders : List YOrder} {S : Nat → Prop} {v : Value} {w : World} (hr : RepC w S (.sl (orders.map cOrder)) v) : ∃ A c, v = .slice A orders.length c ∧ ∀ (i : Nat) (o : YOrder), orders[i]? = some o →
    ∃ b off u6, A = some ⟨b, off, none⟩ ∧ S b ∧ RepC w S (.sl (o.way.map cTrip)) u6 ∧ w.cell? ⟨b, off + i * 11, none⟩ = some (.string o.from_) ∧ w.cell? ⟨b, off + i * 11 + 1, none⟩ = some (.string o.to_) ∧ w.cell? ⟨b, off + i * 11 + 2, none⟩ = some (.int .i64 o.service) ∧ w.cell? ⟨b, off + i * 11 + 3, none⟩ = some (.int .i64 o.weight) ∧ w.cell? ⟨b, off + i * 11 + 4, none⟩ = some (.int .i64 o.at_) ∧ w.cell? ⟨b, off + i * 11 + 5, none⟩ = some (.int .i64 o.due) ∧ w.cell? ⟨b, off + i * 11 + 6, none⟩ = some (u6) ∧ w.cell? ⟨b, off + i * 11 + 7, none⟩ = some (.int .i64 o.gone) ∧ w.cell? ⟨b, off + i * 11 + 8, none⟩ = some (.int .i64 o.state) ∧ w.cell? ⟨b, off + i * 11 + 9, none⟩ = some (.string o.place) ∧ w.cell? ⟨b, off + i * 11 + 10, none⟩ = some (.int .i64 o.ended) := by
  generalize hq : PV.sl (orders.map cOrder) = q at hr
  cases hr with
  | v x h => cases hq
  | ud => cases hq
  | un => cases hq
  | rp => cases hq
  | fn => cases hq
  | nil A c =>
    have h0 : orders = [] := by simpa using hq
    subst h0
    exact ⟨A, c, rfl, by simp⟩
  | sl es b off k c u hS hk hn hm hes hc h1 hrr =>
    obtain rfl : orders.map cOrder = es := by simpa using hq
    refine ⟨_, c, by rw [List.length_map], fun i o ho => ?_⟩
    have ho' : (orders.map cOrder)[i]? = some (cOrder o) := by rw [List.getElem?_map, ho]; rfl
    have hk11 : k = 11 := (hes i _ ho').symm
    subst hk11
    have at_ : ∀ (j : Nat) (p : PV), (cOrder o)[j]? = some p → w.cell? ⟨b, off + i * 11 + j, none⟩ = some (u i j) ∧ RepC w S p (u i j) := fun j p hp => ⟨hc i _ j p ho' hp, hrr i _ j p ho' hp⟩
    have vi_ : ∀ (j : Nat) (n : Int), (cOrder o)[j]? = some (vi n) → w.cell? ⟨b, off + i * 11 + j, none⟩ = some (.int .i64 n) := fun j n hp => by
      obtain ⟨h2, h3⟩ := at_ j _ hp
      rw [h2]
      generalize u i j = z at h3
      cases h3; rfl
    have vs_ : ∀ (j : Nat) (n : ByteArray), (cOrder o)[j]? = some (vs n) → w.cell? ⟨b, off + i * 11 + j, none⟩ = some (.string n) := fun j n hp => by
      obtain ⟨h2, h3⟩ := at_ j _ hp
      rw [h2]
      generalize u i j = z at h3
      cases h3; rfl
    obtain ⟨h6, r6⟩ := at_ 6 _ rfl
    exact ⟨b, off, u i 6, rfl, hS, r6, vs_ 0 _ rfl, vs_ 1 _ rfl, vi_ 2 _ rfl, vi_ 3 _ rfl, vi_ 4 _ rfl, vi_ 5 _ rfl, h6, vi_ 7 _ rfl, vi_ 8 _ rfl, vs_ 9 _ rfl, vi_ 10 _ rfl⟩
/-- The first i orders of a row that is being filled. -/
def FillO (S : Nat → Prop) (g n : Nat) (orders : List YOrder) (i : Nat) (wr : World) : Prop :=
  ∃ cs : Array Value, wr.heap[g]? = some (.cells cs 81 (0, 0)) ∧ cs.size = n * 11 ∧ ∀ (j : Nat) (o : YOrder), j < i → orders[j]? = some o → ∃ x, (∀ q, q < 11 → cs[j * 11 + q]? = (ordV o x)[q]?) ∧ (∃ A c, x = .slice A o.way.length c) ∧ ShapeS wr (g + 1) 57 2 x o.way.length ∧ RepC wr (fun b => S b ∨ (g < b ∧ b < wr.heap.size)) (.sl (o.way.map cTrip)) x
theorem FillO.up {S : Nat → Prop} {g n i : Nat} {orders : List YOrder} {a b : World} (hS : ∀ b, S b → b < g) (hg : g < a.heap.size) (h : FillO S g n orders i a) (k : Up a b) : FillO S g n orders i b := by
  obtain ⟨cs, h1, h2, h3⟩ := h
  refine ⟨cs, (k.block g hg).trans h1, h2, fun j o hj ho => ?_⟩
  obtain ⟨x, x1, x2, x3, x4⟩ := h3 j o hj ho
  refine ⟨x, x1, x2, x3.up k, x4.ext (fun b hb => ?_) (fun b q hb => ?_)⟩
  · rcases hb with h | h
    · exact .inl h
    · exact .inr ⟨h.1, Nat.lt_of_lt_of_le h.2 k.size⟩
  · refine k.cell (p := ⟨b, q, none⟩) ?_
    rcases hb with h | h
    · exact Nat.lt_trans (hS b h) hg
    · exact h.2
theorem Up.wr {g : Nat} {T : TypeId} {w w1 w2 : World} {cs : Array Value} (k : Wr g T w1 w2 cs) (h : Up w w1) (hg : w.heap.size ≤ g) : Up w w2 :=
  ⟨k.os.trans h.os, k.tape.trans h.tape, k.output.trans h.output, by rw [k.size]; exact h.size, fun b hb => (k.oth b (by omega)).trans (h.block b hb)⟩
theorem set11 (cs : Array Value) (i : Nat) (v0 v1 v2 v3 v4 v5 v6 v7 v8 v9 v10 : Value) (hi : (i + 1) * 11 ≤ cs.size) (j q : Nat) (hq : q < 11) :
    (((((((((((cs.setIfInBounds (i * 11) v0).setIfInBounds (i * 11 + 1) v1).setIfInBounds (i * 11 + 2) v2).setIfInBounds (i * 11 + 3) v3).setIfInBounds (i * 11 + 4) v4).setIfInBounds (i * 11 + 5) v5).setIfInBounds (i * 11 + 6) v6).setIfInBounds (i * 11 + 7) v7).setIfInBounds (i * 11 + 8) v8).setIfInBounds (i * 11 + 9) v9).setIfInBounds (i * 11 + 10) v10)[j * 11 + q]? = if j = i then (#[v0, v1, v2, v3, v4, v5, v6, v7, v8, v9, v10] : Array Value)[q]? else cs[j * 11 + q]? := by
  simp only [Array.getElem?_setIfInBounds]
  by_cases e : j = i
  · subst e
    simp only [Array.size_setIfInBounds]
    conv => rhs; rw [if_pos trivial]
    have hlt : ∀ p, p < 11 → j * 11 + p < cs.size := fun p hp => by omega
    have hlt0 : j * 11 < cs.size := by omega
    match q, hq with
    | 0, _ => simp [hlt, hlt0]
    | 1, _ => simp [hlt, hlt0]
    | 2, _ => simp [hlt, hlt0]
    | 3, _ => simp [hlt, hlt0]
    | 4, _ => simp [hlt, hlt0]
    | 5, _ => simp [hlt, hlt0]
    | 6, _ => simp [hlt, hlt0]
    | 7, _ => simp [hlt, hlt0]
    | 8, _ => simp [hlt, hlt0]
    | 9, _ => simp [hlt, hlt0]
    | 10, _ => simp [hlt, hlt0]
  · conv => rhs; rw [if_neg e]
    repeat rw [if_neg (by omega)]
theorem FillO.step {S : Nat → Prop} {g n i : Nat} {orders : List YOrder} {w1 w2 : World} {cs c2 : Array Value} {o : YOrder} {x : Value} (hS : ∀ b, S b → b < g) (hF : FillO S g n orders i w1) (ho : orders[i]? = some o) (hin : i < n)
    (hs : ShapeS w1 (g + 1) 57 2 x o.way.length) (hf : ∃ A c, x = .slice A o.way.length c) (hr : RepC w1 (fun b => S b ∨ (g < b ∧ b < w1.heap.size)) (.sl (o.way.map cTrip)) x)
    (hrow : w1.heap[g]? = some (.cells cs 81 (0, 0))) (k : Wr g 81 w1 w2 c2) (hc2 : c2.size = cs.size) (hat : ∀ j q, q < 11 → c2[j * 11 + q]? = if j = i then (ordV o x)[q]? else cs[j * 11 + q]?) : FillO S g n orders (i + 1) w2 := by
  obtain ⟨cs', h1, h2, h3⟩ := hF
  rw [hrow] at h1
  obtain rfl : cs = cs' := by simpa using h1
  have hne : ∀ b, (S b ∨ (g < b ∧ b < w1.heap.size)) → b ≠ g := by
    rintro b (h | h)
    · have := hS b h; omega
    · omega
  have hrc : ∀ (p : PV) (y : Value), RepC w1 (fun b => S b ∨ (g < b ∧ b < w1.heap.size)) p y → RepC w2 (fun b => S b ∨ (g < b ∧ b < w2.heap.size)) p y := fun p y h => by
    rw [k.size]; exact h.wr k hne
  refine ⟨c2, k.row, by rw [hc2, h2], fun j o' hj ho' => ?_⟩
  by_cases e : j = i
  · subst e
    obtain rfl : o = o' := Option.some.inj (ho.symm.trans ho')
    exact ⟨x, fun q hq => by rw [hat j q hq, if_pos rfl], hf, hs.wr k hrow (by decide), hrc _ _ hr⟩
  · obtain ⟨y, y1, y2, y3, y4⟩ := h3 j o' (by omega) ho'
    exact ⟨y, fun q hq => by rw [hat j q hq, if_neg e]; exact y1 q hq, y2, y3.wr k hrow (by decide), hrc _ _ y4⟩
theorem FillO.done {S : Nat → Prop} {orders : List YOrder} {w w' : World} (hS : ∀ b, S b → b < w.heap.size) (hF : FillO S w.heap.size orders.length orders orders.length w') (hu : Up w w') (hl : orders.length ≤ 1048576) :
    OrdS w' w.heap.size (.slice (some ⟨w.heap.size, 0, none⟩) orders.length orders.length) (orders.map fun o => o.way.length) ∧ RepC w' (NewS S w w') (.sl (orders.map cOrder)) (.slice (some ⟨w.heap.size, 0, none⟩) orders.length orders.length) := by
  obtain ⟨cs, h1, h2, h3⟩ := hF
  have hgl := (Array.getElem?_eq_some_iff.1 h1).1
  constructor
  · refine .inr ⟨w.heap.size, orders.length, cs, by rw [List.length_map], Nat.le_refl _, h1, by rw [List.length_map]; omega, fun j m hj => ?_⟩
    rw [List.getElem?_map] at hj
    obtain ⟨o, ho, rfl⟩ := Option.map_eq_some_iff.1 hj
    obtain ⟨x, x1, _, x3, _⟩ := h3 j o (List.getElem?_eq_some_iff.1 ho).1 ho
    exact ⟨x, x1 6 (by omega), x3.more (by omega)⟩
  · have key : ∀ (i : Nat) (ps : List PV) (j : Nat) (p : PV), (orders.map cOrder)[i]? = some ps → ps[j]? = some p → ∃ u, w'.cell? ⟨w.heap.size, 0 + i * 11 + j, none⟩ = some u ∧ u.oneCell' = true ∧ RepC w' (NewS S w w') p u := by
      intro i ps j p hi hj
      rw [List.getElem?_map] at hi
      obtain ⟨o, ho, rfl⟩ := Option.map_eq_some_iff.1 hi
      obtain ⟨x, x1, ⟨A, c, hx⟩, _, x4⟩ := h3 i o (List.getElem?_eq_some_iff.1 ho).1 ho
      have hj11 : j < 11 := (List.getElem?_eq_some_iff.1 hj).1
      rw [Nat.zero_add, cell_of_row w' _ _ cs _ (0, 0) h1, x1 j hj11]
      have r6 : RepC w' (NewS S w w') (.sl (o.way.map cTrip)) x := x4.ext (fun b hb => by
        rcases hb with h | h
        · exact .inl h
        · exact .inr ⟨by omega, h.2⟩) (fun _ _ _ => rfl)
      match j, hj11, hj with
      | 0, _, hj => obtain rfl := Option.some.inj hj; exact ⟨_, rfl, rfl, .v _ rfl⟩
      | 1, _, hj => obtain rfl := Option.some.inj hj; exact ⟨_, rfl, rfl, .v _ rfl⟩
      | 2, _, hj => obtain rfl := Option.some.inj hj; exact ⟨_, rfl, rfl, .v _ rfl⟩
      | 3, _, hj => obtain rfl := Option.some.inj hj; exact ⟨_, rfl, rfl, .v _ rfl⟩
      | 4, _, hj => obtain rfl := Option.some.inj hj; exact ⟨_, rfl, rfl, .v _ rfl⟩
      | 5, _, hj => obtain rfl := Option.some.inj hj; exact ⟨_, rfl, rfl, .v _ rfl⟩
      | 6, _, hj => obtain rfl := Option.some.inj hj; exact ⟨_, rfl, by rw [hx]; rfl, r6⟩
      | 7, _, hj => obtain rfl := Option.some.inj hj; exact ⟨_, rfl, rfl, .v _ rfl⟩
      | 8, _, hj => obtain rfl := Option.some.inj hj; exact ⟨_, rfl, rfl, .v _ rfl⟩
      | 9, _, hj => obtain rfl := Option.some.inj hj; exact ⟨_, rfl, rfl, .v _ rfl⟩
      | 10, _, hj => obtain rfl := Option.some.inj hj; exact ⟨_, rfl, rfl, .v _ rfl⟩
    have h := RepC.sl (w := w') (S := NewS S w w') (orders.map cOrder) w.heap.size 0 11 orders.length (fun i j => (w'.cell? ⟨w.heap.size, 0 + i * 11 + j, none⟩).getD .nilIface) (.inr ⟨Nat.le_refl _, hgl⟩) (by decide) (by simp) (by unfold maxLen; omega)
      (fun i ps hi => by rw [List.getElem?_map] at hi; obtain ⟨o, _, rfl⟩ := Option.map_eq_some_iff.1 hi; rfl)
      (fun i ps j p hi hj => by obtain ⟨u, u1, _⟩ := key i ps j p hi hj; rw [u1]; rfl)
      (fun i ps j p hi hj => by obtain ⟨u, u1, u2, _⟩ := key i ps j p hi hj; rw [u1]; exact u2)
      (fun i ps j p hi hj => by obtain ⟨u, u1, _, u3⟩ := key i ps j p hi hj; rw [u1]; exact u3)
    simpa only [List.length_map] using h
set_option maxHeartbeats 1000000 in
set_option maxRecDepth 100000 in
theorem toOrderS_w (orders : List YOrder) (hl : orders.length ≤ 1048576) (hway : ∀ o ∈ orders, o.way.length ≤ 1048576) {S : Nat → Prop} {v : Value} {w : World} (hS : ∀ b, S b → b < w.heap.size) (hr : RepC w S (.sl (orders.map cOrder)) v) :
    Calls Tryz.prog 49 #[v] w fun e w' => ∃ v', e = .returned v' ∧ Up w w' ∧ OrdS w' w.heap.size v' (orders.map fun o => o.way.length) ∧ RepC w' (NewS S w w') (.sl (orders.map cOrder)) v' := by
  obtain ⟨A, c, rfl, harg⟩ := ordArg hr
  obtain ⟨i0, hi0, hz0, hz1, hz2⟩ := info_parts info_order
  have hmk := run_mk (P := Tryz.prog) 37 81 i0 _ Tryz.underlying37 hi0 hz0 orders.length (by rw [hz2]; omega) (by omega)
  rw [hz1] at hmk
  clear hi0 hz0 hz1 hz2 hr
  go_enter Tryz.func49, Tryz.ntmps49
  go_wp2
  go_loopw [4] (fun i wr => ∃ j : Nat, j ≤ orders.length ∧ i = .int .i64 j ∧ FillO S w.heap.size orders.length orders j wr ∧ Up w wr) (fun i _ => orders.length - (intOf i).toNat)
  case atStart => exact ⟨0, by omega, rfl, ⟨_, heap_alloc_new w _, by simp [madeCells], fun j o hj => absurd hj (Nat.not_lt_zero j)⟩, by (repeat (first | exact Up.rfl' _ | (refine Up.al _ ?_) | (refine Up.dr _ ?_) | (refine Up.dr1 ?_) | (refine Up.sc ?_ (by first | exact Nat.le_refl _ | (simp; done) | omega) _) | (refine Up.step (by assumption) ?_)))⟩
  case round =>
    obtain ⟨i, hi, rfl, hF, hb⟩ := hrel
    clear hmk
    by_cases hlt : i < orders.length
    · obtain ⟨o, ho⟩ := get_of_lt hlt
      obtain ⟨b, off, u6, rfl, hSb, hr6, c0, c1, c2, c3, c4, c5, c6, c7, c8, c9, c10⟩ := harg i o ho
      have hbw := hS b hSb
      have up_ : ∀ {q : Nat} {x : Value}, w.cell? ⟨b, q, none⟩ = some x → wr.cell? ⟨b, q, none⟩ = some x := fun h => (hb.cell (p := ⟨b, _, none⟩) hbw).trans h
      replace c0 := up_ c0; replace c1 := up_ c1; replace c2 := up_ c2; replace c3 := up_ c3; replace c4 := up_ c4; replace c5 := up_ c5; replace c6 := up_ c6; replace c7 := up_ c7; replace c8 := up_ c8; replace c9 := up_ c9; replace c10 := up_ c10
      obtain ⟨A6', c6', hu6⟩ := repc_form hr6
      rw [List.length_map] at hu6
      subst hu6
      have hgl : w.heap.size < wr.heap.size := by obtain ⟨cs, h1, _⟩ := hF; exact (Array.getElem?_eq_some_iff.1 h1).1
      have hr6' : RepC wr S (.sl (o.way.map cTrip)) _ := hr6.ext (fun _ h => h) (fun b q h => hb.cell (p := ⟨b, q, none⟩) (hS b h))
      have HF := Lib.hid hF
      have HR6 := Lib.hid hr6'
      have HA := Lib.hid harg
      have HO := Lib.hid ho
      clear hr6 hr6' hF harg ho up_
      go_wp2_with fail
      refine (toOrder_w o (hway o (List.mem_of_getElem? HO.out)) (S := S) (fun b h => Nat.lt_trans (hS b h) hgl) HR6.out).mono ?_
      rintro e w1 ⟨A6, c6, rfl, hu1, hs1, hr1⟩
      have hF1 := HF.out.up hS hgl hu1
      obtain ⟨cs, hrow, hcs, _⟩ := id hF1
      have hR : RowA w1 w.heap.size (orders.length * 11) 81 := ⟨cs, hrow, by omega⟩
      obtain ⟨⟨z0, d0⟩, f0⟩ := hR.cell (j := i * 11) (by omega)
      obtain ⟨⟨z1, d1⟩, f1⟩ := hR.cell (j := i * 11 + 1) (by omega)
      obtain ⟨⟨z2, d2⟩, f2⟩ := hR.cell (j := i * 11 + 2) (by omega)
      obtain ⟨⟨z3, d3⟩, f3⟩ := hR.cell (j := i * 11 + 3) (by omega)
      obtain ⟨⟨z4, d4⟩, f4⟩ := hR.cell (j := i * 11 + 4) (by omega)
      obtain ⟨⟨z5, d5⟩, f5⟩ := hR.cell (j := i * 11 + 5) (by omega)
      obtain ⟨⟨z6, d6⟩, f6⟩ := hR.cell (j := i * 11 + 6) (by omega)
      obtain ⟨⟨z7, d7⟩, f7⟩ := hR.cell (j := i * 11 + 7) (by omega)
      obtain ⟨⟨z8, d8⟩, f8⟩ := hR.cell (j := i * 11 + 8) (by omega)
      obtain ⟨⟨z9, d9⟩, f9⟩ := hR.cell (j := i * 11 + 9) (by omega)
      obtain ⟨⟨z10, d10⟩, f10⟩ := hR.cell (j := i * 11 + 10) (by omega)
      have HROW := Lib.hid hrow
      have HF1 := Lib.hid hF1
      have HS1 := Lib.hid hs1
      have HR1 := Lib.hid hr1
      have hb1 : Up w w1 := Up.step hu1 hb
      have s1 := hu1.size
      clear hrow hF1 hs1 hr1 HF HR6 hR
      go_wp2_with fail
      have hrow := HROW.out
      have kw := (((((((((((Wr.start hrow).set (i * 11) (.string o.from_)).set (i * 11 + 1) (.string o.to_)).set (i * 11 + 2) (.int .i64 o.service)).set (i * 11 + 3) (.int .i64 o.weight)).set (i * 11 + 4) (.int .i64 o.at_)).set (i * 11 + 5) (.int .i64 o.due)).set (i * 11 + 6) (.slice A6 o.way.length c6)).set (i * 11 + 7) (.int .i64 o.gone)).set (i * 11 + 8) (.int .i64 o.state)).set (i * 11 + 9) (.string o.place)).set (i * 11 + 10) (.int .i64 o.ended)
      refine ⟨⟨i + 1, by omega, by go_num, ?_, ?_⟩, by simp [intOf]; omega⟩
      · refine FillO.step hS HF1.out HO.out hlt (HS1.out.more (by omega)) ⟨A6, c6, rfl⟩ (HR1.out.ext (fun b hb => ?_) (fun _ _ _ => rfl)) hrow kw (by simp only [Array.size_setIfInBounds]) (fun j q hq => ?_)
        · rcases hb with h | h
          · exact .inl h
          · exact .inr ⟨by omega, h.2⟩
        · have h_ := set11 cs i (.string o.from_) (.string o.to_) (I o.service) (I o.weight) (I o.at_) (I o.due) (.slice A6 o.way.length c6) (I o.gone) (I o.state) (.string o.place) (I o.ended) (by omega) j q hq
          exact h_
      · exact Up.wr kw hb1 (Nat.le_refl _)
    · go_wp2_with fail
      go_ret
      obtain rfl : i = orders.length := by omega
      obtain ⟨h1, h2⟩ := hF.done hS hb hl
      exact ⟨_, rfl, hb, h1, h2⟩
end Go.Proofs.YtooikkfldddjfaaGreat

/- The copies that the laws make of networks and worlds: each slice lies in a block of its own type that the call has made. -/
namespace Go.Proofs.YtooikkfldddjfaaGreat
set_option maxRecDepth 10000
open Go.RowKit
set_option linter.unusedVariables false
set_option linter.unusedSimpArgs false
abbrev SX (S : Nat → Prop) (m : Nat) (a : World) : Nat → Prop := fun b => S b ∨ (m ≤ b ∧ b < a.heap.size)
section
variable {S : Nat → Prop} {m : Nat} {a b w w' : World} {p : PV} {x : Value}
theorem RepC.sx_wr {g : Nat} {T : TypeId} {cs : Array Value} (h : RepC a (SX S m a) p x) (k : Wr g T a b cs) (hg : g < m) (hS : ∀ b, S b → b < g) : RepC b (SX S m b) p x := by
  have h2 := h.wr k (by
    rintro q (h | h)
    · have := hS q h; omega
    · omega)
  exact h2.ext (fun q hq => hq.imp id fun h => ⟨h.1, by rw [k.size]; exact h.2⟩) (fun _ _ _ => rfl)
theorem RepC.sx_up (h : RepC a (SX S m a) p x) (k : Up a b) (hS : ∀ b, S b → b < a.heap.size) : RepC b (SX S m b) p x :=
  h.ext (fun q hq => hq.imp id fun h => ⟨h.1, Nat.lt_of_lt_of_le h.2 k.size⟩) (fun q o hq => k.cell (p := ⟨q, o, none⟩) (by
    rcases hq with h | h
    · exact hS q h
    · exact h.2))
theorem RepC.sx_new (h : RepC w' (NewS S w w') p x) (hm : m ≤ w.heap.size) : RepC w' (SX S m w') p x :=
  h.ext (fun q hq => hq.imp id fun h => ⟨Nat.le_trans hm h.1, h.2⟩) (fun _ _ _ => rfl)
theorem RepC.sx_out (h : RepC w' (SX S m w') p x) (hm : w.heap.size ≤ m) : RepC w' (NewS S w w') p x :=
  h.ext (fun q hq => hq.imp id fun h => ⟨Nat.le_trans hm h.1, h.2⟩) (fun _ _ _ => rfl)
end
theorem OrdS.wr {g : Nat} {T : TypeId} {w1 w2 : World} {cs cs0 : Array Value} {B : Nat} {v : Value} {ms : List Nat} (h : OrdS w1 B v ms) (hk : Wr g T w1 w2 cs) (h0 : w1.heap[g]? = some (.cells cs0 T (0, 0))) (hT : 81 ≠ T) (hT2 : 57 ≠ T) : OrdS w2 B v ms := by
  rcases h with h | ⟨b, c, cs', h1, h2, h3, h4, h5⟩
  · exact .inl h
  · refine .inr ⟨b, c, cs', h1, h2, (hk.oth b ?_).trans h3, h4, fun j m hj => ?_⟩
    · rintro rfl
      rw [h3] at h0
      simp at h0
      exact hT h0.2
    · obtain ⟨u, u1, u2⟩ := h5 j m hj
      exact ⟨u, u1, u2.wr hk h0 hT2⟩
theorem OrdS.form {w : World} {B : Nat} {v : Value} {ms : List Nat} (h : OrdS w B v ms) : ∃ A c, v = .slice A ms.length c := by
  rcases h with ⟨c, rfl, rfl⟩ | ⟨g, c, cs, rfl, _⟩
  · exact ⟨none, c, rfl⟩
  · exact ⟨_, c, rfl⟩
set_option maxHeartbeats 1000000 in
set_option maxRecDepth 100000 in
theorem toNetwork_w (n : YNetwork) (hn : n.legs.length ≤ 1048576 ∧ n.off.length ≤ 1048576) (hleg : ∀ x ∈ n.legs, totLeg x ≤ 1048576) {S : Nat → Prop} {u0 u1 : Value} {w : World} (hS : ∀ b, S b → b < w.heap.size) (hr0 : RepC w S (.sl (n.legs.map cLeg)) u0) (hr1 : RepC w S (.sl (n.off.map cInt)) u1) :
    Calls Tryz.prog 32 #[.agg #[u0, u1, .int .i64 n.change]] w fun e w' => ∃ v0 v1, e = .returned (.agg #[v0, v1, .int .i64 n.change]) ∧ Up w w' ∧ (ShapeS w' w.heap.size 118 6 v0 n.legs.length ∧ RepC w' (NewS S w w') (.sl (n.legs.map cLeg)) v0) ∧ (ShapeS w' w.heap.size 3 1 v1 n.off.length ∧ RepC w' (NewS S w w') (.sl (n.off.map cInt)) v1) := by
  obtain ⟨A0, c0, e0⟩ := repc_form hr0
  obtain ⟨A1, c1, e1⟩ := repc_form hr1
  rw [List.length_map] at e0 e1
  subst e0 e1
  replace hr0 := Lib.hid hr0
  replace hr1 := Lib.hid hr1
  have hleg := hleg
  go_enter Tryz.func32, Tryz.ntmps32
  go_wp2_with fail
  generalize hwb : World.alloc (World.alloc (World.alloc w _) _) _ = w0
  have hA0 : w0.heap[w.heap.size]? = some (.cells #[.slice A0 n.legs.length c0, .slice A1 n.off.length c1, .int .i64 n.change] 25 (0, 0)) := by rw [← hwb]; exact heap_alloc_old (heap_alloc_old (heap_alloc_new w _))
  have hP0 : w0.heap[w.heap.size + 1]? = some (.cells #[.slice none 0 0, .slice none 0 0, .int .i64 0] 36 (0, 0)) := by rw [← hwb]; exact heap_alloc_old (heap_alloc_at (by simp) _)
  have hO0 : w0.heap[w.heap.size + 1 + 1]? = some (.cells #[.slice none 0 0, .slice none 0 0, .int .i64 0] 36 (0, 0)) := by rw [← hwb]; exact heap_alloc_at (by simp) _
  have hU0 : Up w w0 := by rw [← hwb]; (repeat (first | exact Up.rfl' _ | (refine Up.al _ ?_) | (refine Up.dr _ ?_) | (refine Up.dr1 ?_) | (refine Up.sc ?_ (by first | exact Nat.le_refl _ | (simp; done) | omega) _) | (refine Up.step (by assumption) ?_)))
  have hsz : w0.heap.size = w.heap.size + 3 := by rw [← hwb]; simp
  clear hwb
  have hZ0 : w.heap.size + 3 ≤ w0.heap.size := by omega
  have hS1 : ∀ b, S b → b < w.heap.size + 1 + 1 := fun b h => by have := hS b h; omega
  have kw0 := Wr.start hO0
  have hUW0 := Up.wr kw0 hU0 (by omega)
  have hAW0 := (kw0.oth (w.heap.size) (by omega)).trans hA0
  have hPW0 := (kw0.oth (w.heap.size + 1) (by omega)).trans hP0
  have hSW0 : ∀ b, S b → b < (_ : World).heap.size := fun b h => Nat.lt_of_lt_of_le (hS b h) hUW0.size
  have hcsz0 := kw0.size
  refine (toLegS_w n.legs (fun x hx => cpy_Leg x (hleg x hx)) hn.1 (S := S) hSW0 ((hr0.out).ext (fun _ h => h) (fun b q h => hUW0.cell (p := ⟨b, q, none⟩) (hS b h)))).mono ?_
  rintro e w1 ⟨v0, rfl, hu1, hs0_, hr0_⟩
  obtain ⟨X0, d0, rfl⟩ := hs0_.form
  have hU1 := Up.step hu1 hUW0
  have hZ1 : w.heap.size + 3 ≤ w1.heap.size := by have h_ := hu1.size; rw [hcsz0] at h_; omega
  have hA1 := (hu1.block _ (Array.getElem?_eq_some_iff.1 hAW0).1).trans hAW0
  have hP1 := (hu1.block _ (Array.getElem?_eq_some_iff.1 hPW0).1).trans hPW0
  have hO1 := (hu1.block _ (Array.getElem?_eq_some_iff.1 kw0.row).1).trans kw0.row
  try simp only [List.setIfInBounds_toArray, List.set_cons_zero, List.set_cons_succ] at hO1
  have s0 := hs0_.more (B := w.heap.size) (by rw [hcsz0]; omega)
  have r0 := (hr0_).sx_new (m := w.heap.size + 1 + 1 + 1) (by rw [hcsz0]; omega)
  have a1_1 : w1.cell? ⟨w.heap.size, 1, none⟩ = some (.slice A1 n.off.length c1) := by rw [cell_of_row _ _ _ _ _ _ hA1]; rfl
  have o0_1 : w1.cell? ⟨w.heap.size + 1 + 1, 0, none⟩ = some (.slice none 0 0) := by rw [cell_of_row _ _ _ _ _ _ hO1]; rfl
  have f0_1 : w1.frozen? ⟨w.heap.size + 1 + 1, 0, none⟩ = false := frozen_of_row _ _ _ _ _ hO1
  have H_hA1 := Lib.hid hA1
  have H_hP1 := Lib.hid hP1
  have H_hO1 := Lib.hid hO1
  have H_hU1 := Lib.hid hU1
  have H_hu1 := Lib.hid hu1
  have H_s0 := Lib.hid s0
  have H_r0 := Lib.hid r0
  clear hA1 hP1 hO1 hU1 hu1 kw0 hUW0 hAW0 hPW0 hSW0 hcsz0 s0 r0 hA0 hP0 hO0 hU0 hs0_ hr0_
  go_wp2_with fail
  have hA1 := H_hA1.out
  have hP1 := H_hP1.out
  have hO1 := H_hO1.out
  have hU1 := H_hU1.out
  have s0 := H_s0.out; have r0 := H_r0.out
  clear a1_1 o0_1 f0_1
  have kw1 := (Wr.start hO1).set 0 (.slice X0 n.legs.length d0)
  have hUW1 := Up.wr kw1 hU1 (by omega)
  have hAW1 := (kw1.oth (w.heap.size) (by omega)).trans hA1
  have hPW1 := (kw1.oth (w.heap.size + 1) (by omega)).trans hP1
  have hSW1 : ∀ b, S b → b < (_ : World).heap.size := fun b h => Nat.lt_of_lt_of_le (hS b h) hUW1.size
  have t0 := s0.wr kw1 hO1 (by decide)
  have q0 := r0.sx_wr kw1 (by omega) hS1
  have hcsz1 := kw1.size
  refine (toIntS_w n.off hn.2 (S := S) hSW1 ((hr1.out).ext (fun _ h => h) (fun b q h => hUW1.cell (p := ⟨b, q, none⟩) (hS b h)))).mono ?_
  rintro e w2 ⟨v1, rfl, hu2, hs1_, hr1_⟩
  obtain ⟨X1, d1, rfl⟩ := hs1_.form
  have hU2 := Up.step hu2 hUW1
  have hZ2 : w.heap.size + 3 ≤ w2.heap.size := by have h_ := hu2.size; rw [hcsz1] at h_; omega
  have hA2 := (hu2.block _ (Array.getElem?_eq_some_iff.1 hAW1).1).trans hAW1
  have hP2 := (hu2.block _ (Array.getElem?_eq_some_iff.1 hPW1).1).trans hPW1
  have hO2 := (hu2.block _ (Array.getElem?_eq_some_iff.1 kw1.row).1).trans kw1.row
  try simp only [List.setIfInBounds_toArray, List.set_cons_zero, List.set_cons_succ] at hO2
  have s0 := t0.up hu2
  have r0 := q0.sx_up hu2 hSW1
  have s1 := hs1_.more (B := w.heap.size) (by rw [hcsz1]; omega)
  have r1 := (hr1_).sx_new (m := w.heap.size + 1 + 1 + 1) (by rw [hcsz1]; omega)
  have a2_2 : w2.cell? ⟨w.heap.size, 2, none⟩ = some (.int .i64 n.change) := by rw [cell_of_row _ _ _ _ _ _ hA2]; rfl
  have o0_2 : w2.cell? ⟨w.heap.size + 1 + 1, 0, none⟩ = some (.slice X0 n.legs.length d0) := by rw [cell_of_row _ _ _ _ _ _ hO2]; rfl
  have p0_2 : w2.cell? ⟨w.heap.size + 1, 0, none⟩ = some (.slice none 0 0) := by rw [cell_of_row _ _ _ _ _ _ hP2]; rfl
  have g0_2 : w2.frozen? ⟨w.heap.size + 1, 0, none⟩ = false := frozen_of_row _ _ _ _ _ hP2
  have o1_2 : w2.cell? ⟨w.heap.size + 1 + 1, 1, none⟩ = some (.slice none 0 0) := by rw [cell_of_row _ _ _ _ _ _ hO2]; rfl
  have f1_2 : w2.frozen? ⟨w.heap.size + 1 + 1, 1, none⟩ = false := frozen_of_row _ _ _ _ _ hO2
  have p1_2 : w2.cell? ⟨w.heap.size + 1, 1, none⟩ = some (.slice none 0 0) := by rw [cell_of_row _ _ _ _ _ _ hP2]; rfl
  have g1_2 : w2.frozen? ⟨w.heap.size + 1, 1, none⟩ = false := frozen_of_row _ _ _ _ _ hP2
  have o2_2 : w2.cell? ⟨w.heap.size + 1 + 1, 2, none⟩ = some (.int .i64 0) := by rw [cell_of_row _ _ _ _ _ _ hO2]; rfl
  have f2_2 : w2.frozen? ⟨w.heap.size + 1 + 1, 2, none⟩ = false := frozen_of_row _ _ _ _ _ hO2
  have p2_2 : w2.cell? ⟨w.heap.size + 1, 2, none⟩ = some (.int .i64 0) := by rw [cell_of_row _ _ _ _ _ _ hP2]; rfl
  have g2_2 : w2.frozen? ⟨w.heap.size + 1, 2, none⟩ = false := frozen_of_row _ _ _ _ _ hP2
  have H_hA2 := Lib.hid hA2
  have H_hP2 := Lib.hid hP2
  have H_hO2 := Lib.hid hO2
  have H_hU2 := Lib.hid hU2
  have H_hu2 := Lib.hid hu2
  have H_s0 := Lib.hid s0
  have H_r0 := Lib.hid r0
  have H_s1 := Lib.hid s1
  have H_r1 := Lib.hid r1
  clear hA2 hP2 hO2 hU2 hu2 kw1 hUW1 hAW1 hPW1 hSW1 hcsz1 s0 s1 r0 r1 t0 q0 hA1 hP1 hO1 hU1 hs1_ hr1_
  go_wp2_with fail
  have hA2 := H_hA2.out
  have hP2 := H_hP2.out
  have hO2 := H_hO2.out
  have hU2 := H_hU2.out
  have s0 := H_s0.out; have r0 := H_r0.out
  have s1 := H_s1.out; have r1 := H_r1.out
  have kw := ((Wr.start hO2).set 1 (.slice X1 n.off.length d1)).set 2 (.int .i64 n.change)
  have hP := (kw.oth (w.heap.size + 1) (by omega)).trans hP2
  have kz := (((Wr.start hP).set 0 (.slice X0 n.legs.length d0)).set 1 (.slice X1 n.off.length d1)).set 2 (.int .i64 n.change)
  have hUz := Up.wr kz (Up.wr kw hU2 (by omega)) (by omega)
  have z0 := (s0.wr kw hO2 (by decide)).wr kz hP (by decide)
  have y0 := ((r0.sx_wr kw (by omega) hS1).sx_wr kz (by omega) (fun b h => by have := hS b h; omega)).sx_out (w := w) (by omega)
  have z1 := (s1.wr kw hO2 (by decide)).wr kz hP (by decide)
  have y1 := ((r1.sx_wr kw (by omega) hS1).sx_wr kz (by omega) (fun b h => by have := hS b h; omega)).sx_out (w := w) (by omega)
  have hrow := kz.row
  simp only [List.setIfInBounds_toArray, List.set_cons_zero, List.set_cons_succ] at hrow
  refine bodyPost_ret (v := .agg #[.slice X0 n.legs.length d0, .slice X1 n.off.length d1, .int .i64 n.change]) (results_cell_row Tryz.results32 _ _ (w.heap.size + 1) 36 _ (0, 0) _ rfl hrow Tryz.underlying36 rfl (by kernel_rfl)) rfl ?_
  exact ⟨_, _, rfl, hUz, ⟨z0, y0⟩, ⟨z1, y1⟩⟩
theorem way_sum {l : List YOrder} : (l.map fun o => o.way.length).sum ≤ (l.map totOrder).sum := by
  induction l with
  | nil => simp
  | cons o l ih =>
    have h3 : totOrder o = o.from_.size + o.to_.size + o.way.length + o.place.size := rfl
    simp only [List.map_cons, List.sum_cons]
    omega
set_option maxHeartbeats 1000000 in
set_option maxRecDepth 100000 in
theorem toWorld_v (x : YWorld) (hn : x.network.legs.length ≤ 1048576 ∧ x.network.off.length ≤ 1048576) (hleg : ∀ y ∈ x.network.legs, totLeg y ≤ 1048576) (hl : x.orders.length ≤ 1048576 ∧ x.bookings.length ≤ 1048576 ∧ x.closed.length ≤ 1048576 ∧ x.scans.length ≤ 1048576 ∧ x.skip.length ≤ 1048576) (hway : ∀ o ∈ x.orders, o.way.length ≤ 1048576) (hscan : ∀ y ∈ x.scans, totScan y ≤ 1048576)
    {S : Nat → Prop} {u0 u1 u3 u4 u5 u7 u8 : Value} {w : World} (hS : ∀ b, S b → b < w.heap.size) (hr0 : RepC w S (.sl (x.network.legs.map cLeg)) u0) (hr1 : RepC w S (.sl (x.network.off.map cInt)) u1) (hr3 : RepC w S (.sl (x.orders.map cOrder)) u3) (hr4 : RepC w S (.sl (x.bookings.map cBooking)) u4) (hr5 : RepC w S (.sl (x.closed.map cTrip)) u5) (hr7 : RepC w S (.sl (x.scans.map cScan)) u7) (hr8 : RepC w S (.sl (x.skip.map cInt)) u8) :
    Calls Tryz.prog 12 #[.agg #[u0, u1, .int .i64 x.network.change, u3, u4, u5, .int .i64 x.now, u7, u8, .int .i64 x.made]] w fun e w' => ∃ v0 v1 v3 v4 v5 v7 v8, e = .returned (.agg #[v0, v1, .int .i64 x.network.change, v3, v4, v5, .int .i64 x.now, v7, v8, .int .i64 x.made]) ∧ Up w w' ∧ (ShapeS w' w.heap.size 118 6 v0 x.network.legs.length ∧ RepC w' (NewS S w w') (.sl (x.network.legs.map cLeg)) v0) ∧ (ShapeS w' w.heap.size 3 1 v1 x.network.off.length ∧ RepC w' (NewS S w w') (.sl (x.network.off.map cInt)) v1) ∧ (OrdS w' w.heap.size v3 (x.orders.map fun o => o.way.length) ∧ RepC w' (NewS S w w') (.sl (x.orders.map cOrder)) v3) ∧ (ShapeS w' w.heap.size 114 4 v4 x.bookings.length ∧ RepC w' (NewS S w w') (.sl (x.bookings.map cBooking)) v4) ∧ (ShapeS w' w.heap.size 57 2 v5 x.closed.length ∧ RepC w' (NewS S w w') (.sl (x.closed.map cTrip)) v5) ∧ (ShapeS w' w.heap.size 78 6 v7 x.scans.length ∧ RepC w' (NewS S w w') (.sl (x.scans.map cScan)) v7) ∧ (ShapeS w' w.heap.size 3 1 v8 x.skip.length ∧ RepC w' (NewS S w w') (.sl (x.skip.map cInt)) v8) := by
  obtain ⟨A0, c0, e0⟩ := repc_form hr0
  obtain ⟨A1, c1, e1⟩ := repc_form hr1
  obtain ⟨A3, c3, e3⟩ := repc_form hr3
  obtain ⟨A4, c4, e4⟩ := repc_form hr4
  obtain ⟨A5, c5, e5⟩ := repc_form hr5
  obtain ⟨A7, c7, e7⟩ := repc_form hr7
  obtain ⟨A8, c8, e8⟩ := repc_form hr8
  rw [List.length_map] at e0 e1 e3 e4 e5 e7 e8
  subst e0 e1 e3 e4 e5 e7 e8
  replace hr0 := Lib.hid hr0
  replace hr1 := Lib.hid hr1
  replace hr3 := Lib.hid hr3
  replace hr4 := Lib.hid hr4
  replace hr5 := Lib.hid hr5
  replace hr7 := Lib.hid hr7
  replace hr8 := Lib.hid hr8
  go_enter Tryz.func12, Tryz.ntmps12
  go_wp2_with fail
  generalize hwb : World.alloc (World.alloc (World.alloc w _) _) _ = w0
  have hA0 : w0.heap[w.heap.size]? = some (.cells #[.slice A0 x.network.legs.length c0, .slice A1 x.network.off.length c1, .int .i64 x.network.change, .slice A3 x.orders.length c3, .slice A4 x.bookings.length c4, .slice A5 x.closed.length c5, .int .i64 x.now, .slice A7 x.scans.length c7, .slice A8 x.skip.length c8, .int .i64 x.made] 31 (0, 0)) := by rw [← hwb]; exact heap_alloc_old (heap_alloc_old (heap_alloc_new w _))
  have hP0 : w0.heap[w.heap.size + 1]? = some (.cells #[.slice none 0 0, .slice none 0 0, .int .i64 0, .slice none 0 0, .slice none 0 0, .slice none 0 0, .int .i64 0, .slice none 0 0, .slice none 0 0, .int .i64 0] 42 (0, 0)) := by rw [← hwb]; exact heap_alloc_old (heap_alloc_at (by simp) _)
  have hO0 : w0.heap[w.heap.size + 1 + 1]? = some (.cells #[.slice none 0 0, .slice none 0 0, .int .i64 0, .slice none 0 0, .slice none 0 0, .slice none 0 0, .int .i64 0, .slice none 0 0, .slice none 0 0, .int .i64 0] 42 (0, 0)) := by rw [← hwb]; exact heap_alloc_at (by simp) _
  have hU0 : Up w w0 := by rw [← hwb]; (repeat (first | exact Up.rfl' _ | (refine Up.al _ ?_) | (refine Up.dr _ ?_) | (refine Up.dr1 ?_) | (refine Up.sc ?_ (by first | exact Nat.le_refl _ | (simp; done) | omega) _) | (refine Up.step (by assumption) ?_)))
  have hsz : w0.heap.size = w.heap.size + 3 := by rw [← hwb]; simp
  clear hwb
  have hZ0 : w.heap.size + 3 ≤ w0.heap.size := by omega
  have hS1 : ∀ b, S b → b < w.heap.size + 1 + 1 := fun b h => by have := hS b h; omega
  have kw0 := Wr.start hO0
  have hUW0 := Up.wr kw0 hU0 (by omega)
  have hAW0 := (kw0.oth (w.heap.size) (by omega)).trans hA0
  have hPW0 := (kw0.oth (w.heap.size + 1) (by omega)).trans hP0
  have hSW0 : ∀ b, S b → b < (_ : World).heap.size := fun b h => Nat.lt_of_lt_of_le (hS b h) hUW0.size
  have hcsz0 := kw0.size
  refine (toNetwork_w x.network hn hleg (S := S) hSW0 ((hr0.out).ext (fun _ h => h) (fun b q h => hUW0.cell (p := ⟨b, q, none⟩) (hS b h))) ((hr1.out).ext (fun _ h => h) (fun b q h => hUW0.cell (p := ⟨b, q, none⟩) (hS b h)))).mono ?_
  rintro e w1 ⟨v0, v1, rfl, hu1, ⟨hs0_, hr0_⟩, ⟨hs1_, hr1_⟩⟩
  obtain ⟨X0, d0, rfl⟩ := hs0_.form
  obtain ⟨X1, d1, rfl⟩ := hs1_.form
  have hU1 := Up.step hu1 hUW0
  have hZ1 : w.heap.size + 3 ≤ w1.heap.size := by have h_ := hu1.size; rw [hcsz0] at h_; omega
  have hA1 := (hu1.block _ (Array.getElem?_eq_some_iff.1 hAW0).1).trans hAW0
  have hP1 := (hu1.block _ (Array.getElem?_eq_some_iff.1 hPW0).1).trans hPW0
  have hO1 := (hu1.block _ (Array.getElem?_eq_some_iff.1 kw0.row).1).trans kw0.row
  try simp only [List.setIfInBounds_toArray, List.set_cons_zero, List.set_cons_succ] at hO1
  have s0 := hs0_.more (B := w.heap.size) (by rw [hcsz0]; omega)
  have r0 := (hr0_).sx_new (m := w.heap.size + 1 + 1 + 1) (by rw [hcsz0]; omega)
  have s1 := hs1_.more (B := w.heap.size) (by rw [hcsz0]; omega)
  have r1 := (hr1_).sx_new (m := w.heap.size + 1 + 1 + 1) (by rw [hcsz0]; omega)
  have a3_1 : w1.cell? ⟨w.heap.size, 3, none⟩ = some (.slice A3 x.orders.length c3) := by rw [cell_of_row _ _ _ _ _ _ hA1]; rfl
  have o0_1 : w1.cell? ⟨w.heap.size + 1 + 1, 0, none⟩ = some (.slice none 0 0) := by rw [cell_of_row _ _ _ _ _ _ hO1]; rfl
  have f0_1 : w1.frozen? ⟨w.heap.size + 1 + 1, 0, none⟩ = false := frozen_of_row _ _ _ _ _ hO1
  have o1_1 : w1.cell? ⟨w.heap.size + 1 + 1, 1, none⟩ = some (.slice none 0 0) := by rw [cell_of_row _ _ _ _ _ _ hO1]; rfl
  have f1_1 : w1.frozen? ⟨w.heap.size + 1 + 1, 1, none⟩ = false := frozen_of_row _ _ _ _ _ hO1
  have o2_1 : w1.cell? ⟨w.heap.size + 1 + 1, 2, none⟩ = some (.int .i64 0) := by rw [cell_of_row _ _ _ _ _ _ hO1]; rfl
  have f2_1 : w1.frozen? ⟨w.heap.size + 1 + 1, 2, none⟩ = false := frozen_of_row _ _ _ _ _ hO1
  have H_hA1 := Lib.hid hA1
  have H_hP1 := Lib.hid hP1
  have H_hO1 := Lib.hid hO1
  have H_hU1 := Lib.hid hU1
  have H_hu1 := Lib.hid hu1
  have H_s0 := Lib.hid s0
  have H_r0 := Lib.hid r0
  have H_s1 := Lib.hid s1
  have H_r1 := Lib.hid r1
  clear hA1 hP1 hO1 hU1 hu1 kw0 hUW0 hAW0 hPW0 hSW0 hcsz0 s0 s1 r0 r1 hA0 hP0 hO0 hU0 hs0_ hr0_ hs1_ hr1_
  go_wp2_with fail
  have hA1 := H_hA1.out
  have hP1 := H_hP1.out
  have hO1 := H_hO1.out
  have hU1 := H_hU1.out
  have s0 := H_s0.out; have r0 := H_r0.out
  have s1 := H_s1.out; have r1 := H_r1.out
  clear a3_1 o0_1 o1_1 o2_1 f0_1 f1_1 f2_1
  have kw1 := (((Wr.start hO1).set 0 (.slice X0 x.network.legs.length d0)).set 1 (.slice X1 x.network.off.length d1)).set 2 (.int .i64 x.network.change)
  have hUW1 := Up.wr kw1 hU1 (by omega)
  have hAW1 := (kw1.oth (w.heap.size) (by omega)).trans hA1
  have hPW1 := (kw1.oth (w.heap.size + 1) (by omega)).trans hP1
  have hSW1 : ∀ b, S b → b < (_ : World).heap.size := fun b h => Nat.lt_of_lt_of_le (hS b h) hUW1.size
  have t0 := s0.wr kw1 hO1 (by decide)
  have q0 := r0.sx_wr kw1 (by omega) hS1
  have t1 := s1.wr kw1 hO1 (by decide)
  have q1 := r1.sx_wr kw1 (by omega) hS1
  have hcsz1 := kw1.size
  refine (toOrderS_w x.orders hl.1 hway (S := S) hSW1 ((hr3.out).ext (fun _ h => h) (fun b q h => hUW1.cell (p := ⟨b, q, none⟩) (hS b h)))).mono ?_
  rintro e w2 ⟨v3, rfl, hu2, hs3_, hr3_⟩
  obtain ⟨X3, d3, e3⟩ := hs3_.form
  rw [List.length_map] at e3
  subst e3
  have hU2 := Up.step hu2 hUW1
  have hZ2 : w.heap.size + 3 ≤ w2.heap.size := by have h_ := hu2.size; rw [hcsz1] at h_; omega
  have hA2 := (hu2.block _ (Array.getElem?_eq_some_iff.1 hAW1).1).trans hAW1
  have hP2 := (hu2.block _ (Array.getElem?_eq_some_iff.1 hPW1).1).trans hPW1
  have hO2 := (hu2.block _ (Array.getElem?_eq_some_iff.1 kw1.row).1).trans kw1.row
  try simp only [List.setIfInBounds_toArray, List.set_cons_zero, List.set_cons_succ] at hO2
  have s0 := t0.up hu2
  have r0 := q0.sx_up hu2 hSW1
  have s1 := t1.up hu2
  have r1 := q1.sx_up hu2 hSW1
  have s3 := hs3_.more (B' := w.heap.size) (by rw [hcsz1]; omega)
  have r3 := (hr3_).sx_new (m := w.heap.size + 1 + 1 + 1) (by rw [hcsz1]; omega)
  have a4_2 : w2.cell? ⟨w.heap.size, 4, none⟩ = some (.slice A4 x.bookings.length c4) := by rw [cell_of_row _ _ _ _ _ _ hA2]; rfl
  have o3_2 : w2.cell? ⟨w.heap.size + 1 + 1, 3, none⟩ = some (.slice none 0 0) := by rw [cell_of_row _ _ _ _ _ _ hO2]; rfl
  have f3_2 : w2.frozen? ⟨w.heap.size + 1 + 1, 3, none⟩ = false := frozen_of_row _ _ _ _ _ hO2
  have H_hA2 := Lib.hid hA2
  have H_hP2 := Lib.hid hP2
  have H_hO2 := Lib.hid hO2
  have H_hU2 := Lib.hid hU2
  have H_hu2 := Lib.hid hu2
  have H_s0 := Lib.hid s0
  have H_r0 := Lib.hid r0
  have H_s1 := Lib.hid s1
  have H_r1 := Lib.hid r1
  have H_s3 := Lib.hid s3
  have H_r3 := Lib.hid r3
  clear hA2 hP2 hO2 hU2 hu2 kw1 hUW1 hAW1 hPW1 hSW1 hcsz1 s0 s1 s3 r0 r1 r3 t0 t1 q0 q1 hA1 hP1 hO1 hU1 hs3_ hr3_
  go_wp2_with fail
  have hA2 := H_hA2.out
  have hP2 := H_hP2.out
  have hO2 := H_hO2.out
  have hU2 := H_hU2.out
  have s0 := H_s0.out; have r0 := H_r0.out
  have s1 := H_s1.out; have r1 := H_r1.out
  have s3 := H_s3.out; have r3 := H_r3.out
  clear a4_2 o3_2 f3_2
  have kw2 := (Wr.start hO2).set 3 (.slice X3 x.orders.length d3)
  have hUW2 := Up.wr kw2 hU2 (by omega)
  have hAW2 := (kw2.oth (w.heap.size) (by omega)).trans hA2
  have hPW2 := (kw2.oth (w.heap.size + 1) (by omega)).trans hP2
  have hSW2 : ∀ b, S b → b < (_ : World).heap.size := fun b h => Nat.lt_of_lt_of_le (hS b h) hUW2.size
  have t0 := s0.wr kw2 hO2 (by decide)
  have q0 := r0.sx_wr kw2 (by omega) hS1
  have t1 := s1.wr kw2 hO2 (by decide)
  have q1 := r1.sx_wr kw2 (by omega) hS1
  have t3 := s3.wr kw2 hO2 (by decide) (by decide)
  have q3 := r3.sx_wr kw2 (by omega) hS1
  have hcsz2 := kw2.size
  refine (toBookingS_w x.bookings (fun y _ => cpy_Booking y) hl.2.1 (S := S) hSW2 ((hr4.out).ext (fun _ h => h) (fun b q h => hUW2.cell (p := ⟨b, q, none⟩) (hS b h)))).mono ?_
  rintro e w3 ⟨v4, rfl, hu3, hs4_, hr4_⟩
  obtain ⟨X4, d4, rfl⟩ := hs4_.form
  have hU3 := Up.step hu3 hUW2
  have hZ3 : w.heap.size + 3 ≤ w3.heap.size := by have h_ := hu3.size; rw [hcsz2] at h_; omega
  have hA3 := (hu3.block _ (Array.getElem?_eq_some_iff.1 hAW2).1).trans hAW2
  have hP3 := (hu3.block _ (Array.getElem?_eq_some_iff.1 hPW2).1).trans hPW2
  have hO3 := (hu3.block _ (Array.getElem?_eq_some_iff.1 kw2.row).1).trans kw2.row
  try simp only [List.setIfInBounds_toArray, List.set_cons_zero, List.set_cons_succ] at hO3
  have s0 := t0.up hu3
  have r0 := q0.sx_up hu3 hSW2
  have s1 := t1.up hu3
  have r1 := q1.sx_up hu3 hSW2
  have s3 := t3.up hu3
  have r3 := q3.sx_up hu3 hSW2
  have s4 := hs4_.more (B := w.heap.size) (by rw [hcsz2]; omega)
  have r4 := (hr4_).sx_new (m := w.heap.size + 1 + 1 + 1) (by rw [hcsz2]; omega)
  have a5_3 : w3.cell? ⟨w.heap.size, 5, none⟩ = some (.slice A5 x.closed.length c5) := by rw [cell_of_row _ _ _ _ _ _ hA3]; rfl
  have o4_3 : w3.cell? ⟨w.heap.size + 1 + 1, 4, none⟩ = some (.slice none 0 0) := by rw [cell_of_row _ _ _ _ _ _ hO3]; rfl
  have f4_3 : w3.frozen? ⟨w.heap.size + 1 + 1, 4, none⟩ = false := frozen_of_row _ _ _ _ _ hO3
  have H_hA3 := Lib.hid hA3
  have H_hP3 := Lib.hid hP3
  have H_hO3 := Lib.hid hO3
  have H_hU3 := Lib.hid hU3
  have H_hu3 := Lib.hid hu3
  have H_s0 := Lib.hid s0
  have H_r0 := Lib.hid r0
  have H_s1 := Lib.hid s1
  have H_r1 := Lib.hid r1
  have H_s3 := Lib.hid s3
  have H_r3 := Lib.hid r3
  have H_s4 := Lib.hid s4
  have H_r4 := Lib.hid r4
  clear hA3 hP3 hO3 hU3 hu3 kw2 hUW2 hAW2 hPW2 hSW2 hcsz2 s0 s1 s3 s4 r0 r1 r3 r4 t0 t1 t3 q0 q1 q3 hA2 hP2 hO2 hU2 hs4_ hr4_
  go_wp2_with fail
  have hA3 := H_hA3.out
  have hP3 := H_hP3.out
  have hO3 := H_hO3.out
  have hU3 := H_hU3.out
  have s0 := H_s0.out; have r0 := H_r0.out
  have s1 := H_s1.out; have r1 := H_r1.out
  have s3 := H_s3.out; have r3 := H_r3.out
  have s4 := H_s4.out; have r4 := H_r4.out
  clear a5_3 o4_3 f4_3
  have kw3 := (Wr.start hO3).set 4 (.slice X4 x.bookings.length d4)
  have hUW3 := Up.wr kw3 hU3 (by omega)
  have hAW3 := (kw3.oth (w.heap.size) (by omega)).trans hA3
  have hPW3 := (kw3.oth (w.heap.size + 1) (by omega)).trans hP3
  have hSW3 : ∀ b, S b → b < (_ : World).heap.size := fun b h => Nat.lt_of_lt_of_le (hS b h) hUW3.size
  have t0 := s0.wr kw3 hO3 (by decide)
  have q0 := r0.sx_wr kw3 (by omega) hS1
  have t1 := s1.wr kw3 hO3 (by decide)
  have q1 := r1.sx_wr kw3 (by omega) hS1
  have t3 := s3.wr kw3 hO3 (by decide) (by decide)
  have q3 := r3.sx_wr kw3 (by omega) hS1
  have t4 := s4.wr kw3 hO3 (by decide)
  have q4 := r4.sx_wr kw3 (by omega) hS1
  have hcsz3 := kw3.size
  refine (toTripS_w x.closed (fun y _ => cpy_Trip y) hl.2.2.1 (S := S) hSW3 ((hr5.out).ext (fun _ h => h) (fun b q h => hUW3.cell (p := ⟨b, q, none⟩) (hS b h)))).mono ?_
  rintro e w4 ⟨v5, rfl, hu4, hs5_, hr5_⟩
  obtain ⟨X5, d5, rfl⟩ := hs5_.form
  have hU4 := Up.step hu4 hUW3
  have hZ4 : w.heap.size + 3 ≤ w4.heap.size := by have h_ := hu4.size; rw [hcsz3] at h_; omega
  have hA4 := (hu4.block _ (Array.getElem?_eq_some_iff.1 hAW3).1).trans hAW3
  have hP4 := (hu4.block _ (Array.getElem?_eq_some_iff.1 hPW3).1).trans hPW3
  have hO4 := (hu4.block _ (Array.getElem?_eq_some_iff.1 kw3.row).1).trans kw3.row
  try simp only [List.setIfInBounds_toArray, List.set_cons_zero, List.set_cons_succ] at hO4
  have s0 := t0.up hu4
  have r0 := q0.sx_up hu4 hSW3
  have s1 := t1.up hu4
  have r1 := q1.sx_up hu4 hSW3
  have s3 := t3.up hu4
  have r3 := q3.sx_up hu4 hSW3
  have s4 := t4.up hu4
  have r4 := q4.sx_up hu4 hSW3
  have s5 := hs5_.more (B := w.heap.size) (by rw [hcsz3]; omega)
  have r5 := (hr5_).sx_new (m := w.heap.size + 1 + 1 + 1) (by rw [hcsz3]; omega)
  have a6_4 : w4.cell? ⟨w.heap.size, 6, none⟩ = some (.int .i64 x.now) := by rw [cell_of_row _ _ _ _ _ _ hA4]; rfl
  have a7_4 : w4.cell? ⟨w.heap.size, 7, none⟩ = some (.slice A7 x.scans.length c7) := by rw [cell_of_row _ _ _ _ _ _ hA4]; rfl
  have o5_4 : w4.cell? ⟨w.heap.size + 1 + 1, 5, none⟩ = some (.slice none 0 0) := by rw [cell_of_row _ _ _ _ _ _ hO4]; rfl
  have f5_4 : w4.frozen? ⟨w.heap.size + 1 + 1, 5, none⟩ = false := frozen_of_row _ _ _ _ _ hO4
  have o6_4 : w4.cell? ⟨w.heap.size + 1 + 1, 6, none⟩ = some (.int .i64 0) := by rw [cell_of_row _ _ _ _ _ _ hO4]; rfl
  have f6_4 : w4.frozen? ⟨w.heap.size + 1 + 1, 6, none⟩ = false := frozen_of_row _ _ _ _ _ hO4
  have H_hA4 := Lib.hid hA4
  have H_hP4 := Lib.hid hP4
  have H_hO4 := Lib.hid hO4
  have H_hU4 := Lib.hid hU4
  have H_hu4 := Lib.hid hu4
  have H_s0 := Lib.hid s0
  have H_r0 := Lib.hid r0
  have H_s1 := Lib.hid s1
  have H_r1 := Lib.hid r1
  have H_s3 := Lib.hid s3
  have H_r3 := Lib.hid r3
  have H_s4 := Lib.hid s4
  have H_r4 := Lib.hid r4
  have H_s5 := Lib.hid s5
  have H_r5 := Lib.hid r5
  clear hA4 hP4 hO4 hU4 hu4 kw3 hUW3 hAW3 hPW3 hSW3 hcsz3 s0 s1 s3 s4 s5 r0 r1 r3 r4 r5 t0 t1 t3 t4 q0 q1 q3 q4 hA3 hP3 hO3 hU3 hs5_ hr5_
  go_wp2_with fail
  have hA4 := H_hA4.out
  have hP4 := H_hP4.out
  have hO4 := H_hO4.out
  have hU4 := H_hU4.out
  have s0 := H_s0.out; have r0 := H_r0.out
  have s1 := H_s1.out; have r1 := H_r1.out
  have s3 := H_s3.out; have r3 := H_r3.out
  have s4 := H_s4.out; have r4 := H_r4.out
  have s5 := H_s5.out; have r5 := H_r5.out
  clear a6_4 a7_4 o5_4 o6_4 f5_4 f6_4
  have kw4 := ((Wr.start hO4).set 5 (.slice X5 x.closed.length d5)).set 6 (.int .i64 x.now)
  have hUW4 := Up.wr kw4 hU4 (by omega)
  have hAW4 := (kw4.oth (w.heap.size) (by omega)).trans hA4
  have hPW4 := (kw4.oth (w.heap.size + 1) (by omega)).trans hP4
  have hSW4 : ∀ b, S b → b < (_ : World).heap.size := fun b h => Nat.lt_of_lt_of_le (hS b h) hUW4.size
  have t0 := s0.wr kw4 hO4 (by decide)
  have q0 := r0.sx_wr kw4 (by omega) hS1
  have t1 := s1.wr kw4 hO4 (by decide)
  have q1 := r1.sx_wr kw4 (by omega) hS1
  have t3 := s3.wr kw4 hO4 (by decide) (by decide)
  have q3 := r3.sx_wr kw4 (by omega) hS1
  have t4 := s4.wr kw4 hO4 (by decide)
  have q4 := r4.sx_wr kw4 (by omega) hS1
  have t5 := s5.wr kw4 hO4 (by decide)
  have q5 := r5.sx_wr kw4 (by omega) hS1
  have hcsz4 := kw4.size
  refine (toScanS_w x.scans (fun y hy => cpy_Scan y (hscan y hy)) hl.2.2.2.1 (S := S) hSW4 ((hr7.out).ext (fun _ h => h) (fun b q h => hUW4.cell (p := ⟨b, q, none⟩) (hS b h)))).mono ?_
  rintro e w5 ⟨v7, rfl, hu5, hs7_, hr7_⟩
  obtain ⟨X7, d7, rfl⟩ := hs7_.form
  have hU5 := Up.step hu5 hUW4
  have hZ5 : w.heap.size + 3 ≤ w5.heap.size := by have h_ := hu5.size; rw [hcsz4] at h_; omega
  have hA5 := (hu5.block _ (Array.getElem?_eq_some_iff.1 hAW4).1).trans hAW4
  have hP5 := (hu5.block _ (Array.getElem?_eq_some_iff.1 hPW4).1).trans hPW4
  have hO5 := (hu5.block _ (Array.getElem?_eq_some_iff.1 kw4.row).1).trans kw4.row
  try simp only [List.setIfInBounds_toArray, List.set_cons_zero, List.set_cons_succ] at hO5
  have s0 := t0.up hu5
  have r0 := q0.sx_up hu5 hSW4
  have s1 := t1.up hu5
  have r1 := q1.sx_up hu5 hSW4
  have s3 := t3.up hu5
  have r3 := q3.sx_up hu5 hSW4
  have s4 := t4.up hu5
  have r4 := q4.sx_up hu5 hSW4
  have s5 := t5.up hu5
  have r5 := q5.sx_up hu5 hSW4
  have s7 := hs7_.more (B := w.heap.size) (by rw [hcsz4]; omega)
  have r7 := (hr7_).sx_new (m := w.heap.size + 1 + 1 + 1) (by rw [hcsz4]; omega)
  have a8_5 : w5.cell? ⟨w.heap.size, 8, none⟩ = some (.slice A8 x.skip.length c8) := by rw [cell_of_row _ _ _ _ _ _ hA5]; rfl
  have o7_5 : w5.cell? ⟨w.heap.size + 1 + 1, 7, none⟩ = some (.slice none 0 0) := by rw [cell_of_row _ _ _ _ _ _ hO5]; rfl
  have f7_5 : w5.frozen? ⟨w.heap.size + 1 + 1, 7, none⟩ = false := frozen_of_row _ _ _ _ _ hO5
  have H_hA5 := Lib.hid hA5
  have H_hP5 := Lib.hid hP5
  have H_hO5 := Lib.hid hO5
  have H_hU5 := Lib.hid hU5
  have H_hu5 := Lib.hid hu5
  have H_s0 := Lib.hid s0
  have H_r0 := Lib.hid r0
  have H_s1 := Lib.hid s1
  have H_r1 := Lib.hid r1
  have H_s3 := Lib.hid s3
  have H_r3 := Lib.hid r3
  have H_s4 := Lib.hid s4
  have H_r4 := Lib.hid r4
  have H_s5 := Lib.hid s5
  have H_r5 := Lib.hid r5
  have H_s7 := Lib.hid s7
  have H_r7 := Lib.hid r7
  clear hA5 hP5 hO5 hU5 hu5 kw4 hUW4 hAW4 hPW4 hSW4 hcsz4 s0 s1 s3 s4 s5 s7 r0 r1 r3 r4 r5 r7 t0 t1 t3 t4 t5 q0 q1 q3 q4 q5 hA4 hP4 hO4 hU4 hs7_ hr7_
  go_wp2_with fail
  have hA5 := H_hA5.out
  have hP5 := H_hP5.out
  have hO5 := H_hO5.out
  have hU5 := H_hU5.out
  have s0 := H_s0.out; have r0 := H_r0.out
  have s1 := H_s1.out; have r1 := H_r1.out
  have s3 := H_s3.out; have r3 := H_r3.out
  have s4 := H_s4.out; have r4 := H_r4.out
  have s5 := H_s5.out; have r5 := H_r5.out
  have s7 := H_s7.out; have r7 := H_r7.out
  clear a8_5 o7_5 f7_5
  have kw5 := (Wr.start hO5).set 7 (.slice X7 x.scans.length d7)
  have hUW5 := Up.wr kw5 hU5 (by omega)
  have hAW5 := (kw5.oth (w.heap.size) (by omega)).trans hA5
  have hPW5 := (kw5.oth (w.heap.size + 1) (by omega)).trans hP5
  have hSW5 : ∀ b, S b → b < (_ : World).heap.size := fun b h => Nat.lt_of_lt_of_le (hS b h) hUW5.size
  have t0 := s0.wr kw5 hO5 (by decide)
  have q0 := r0.sx_wr kw5 (by omega) hS1
  have t1 := s1.wr kw5 hO5 (by decide)
  have q1 := r1.sx_wr kw5 (by omega) hS1
  have t3 := s3.wr kw5 hO5 (by decide) (by decide)
  have q3 := r3.sx_wr kw5 (by omega) hS1
  have t4 := s4.wr kw5 hO5 (by decide)
  have q4 := r4.sx_wr kw5 (by omega) hS1
  have t5 := s5.wr kw5 hO5 (by decide)
  have q5 := r5.sx_wr kw5 (by omega) hS1
  have t7 := s7.wr kw5 hO5 (by decide)
  have q7 := r7.sx_wr kw5 (by omega) hS1
  have hcsz5 := kw5.size
  refine (toIntS_w x.skip hl.2.2.2.2 (S := S) hSW5 ((hr8.out).ext (fun _ h => h) (fun b q h => hUW5.cell (p := ⟨b, q, none⟩) (hS b h)))).mono ?_
  rintro e w6 ⟨v8, rfl, hu6, hs8_, hr8_⟩
  obtain ⟨X8, d8, rfl⟩ := hs8_.form
  have hU6 := Up.step hu6 hUW5
  have hZ6 : w.heap.size + 3 ≤ w6.heap.size := by have h_ := hu6.size; rw [hcsz5] at h_; omega
  have hA6 := (hu6.block _ (Array.getElem?_eq_some_iff.1 hAW5).1).trans hAW5
  have hP6 := (hu6.block _ (Array.getElem?_eq_some_iff.1 hPW5).1).trans hPW5
  have hO6 := (hu6.block _ (Array.getElem?_eq_some_iff.1 kw5.row).1).trans kw5.row
  try simp only [List.setIfInBounds_toArray, List.set_cons_zero, List.set_cons_succ] at hO6
  have s0 := t0.up hu6
  have r0 := q0.sx_up hu6 hSW5
  have s1 := t1.up hu6
  have r1 := q1.sx_up hu6 hSW5
  have s3 := t3.up hu6
  have r3 := q3.sx_up hu6 hSW5
  have s4 := t4.up hu6
  have r4 := q4.sx_up hu6 hSW5
  have s5 := t5.up hu6
  have r5 := q5.sx_up hu6 hSW5
  have s7 := t7.up hu6
  have r7 := q7.sx_up hu6 hSW5
  have s8 := hs8_.more (B := w.heap.size) (by rw [hcsz5]; omega)
  have r8 := (hr8_).sx_new (m := w.heap.size + 1 + 1 + 1) (by rw [hcsz5]; omega)
  have a9_6 : w6.cell? ⟨w.heap.size, 9, none⟩ = some (.int .i64 x.made) := by rw [cell_of_row _ _ _ _ _ _ hA6]; rfl
  have o0_6 : w6.cell? ⟨w.heap.size + 1 + 1, 0, none⟩ = some (.slice X0 x.network.legs.length d0) := by rw [cell_of_row _ _ _ _ _ _ hO6]; rfl
  have p0_6 : w6.cell? ⟨w.heap.size + 1, 0, none⟩ = some (.slice none 0 0) := by rw [cell_of_row _ _ _ _ _ _ hP6]; rfl
  have g0_6 : w6.frozen? ⟨w.heap.size + 1, 0, none⟩ = false := frozen_of_row _ _ _ _ _ hP6
  have o1_6 : w6.cell? ⟨w.heap.size + 1 + 1, 1, none⟩ = some (.slice X1 x.network.off.length d1) := by rw [cell_of_row _ _ _ _ _ _ hO6]; rfl
  have p1_6 : w6.cell? ⟨w.heap.size + 1, 1, none⟩ = some (.slice none 0 0) := by rw [cell_of_row _ _ _ _ _ _ hP6]; rfl
  have g1_6 : w6.frozen? ⟨w.heap.size + 1, 1, none⟩ = false := frozen_of_row _ _ _ _ _ hP6
  have o2_6 : w6.cell? ⟨w.heap.size + 1 + 1, 2, none⟩ = some (.int .i64 x.network.change) := by rw [cell_of_row _ _ _ _ _ _ hO6]; rfl
  have p2_6 : w6.cell? ⟨w.heap.size + 1, 2, none⟩ = some (.int .i64 0) := by rw [cell_of_row _ _ _ _ _ _ hP6]; rfl
  have g2_6 : w6.frozen? ⟨w.heap.size + 1, 2, none⟩ = false := frozen_of_row _ _ _ _ _ hP6
  have o3_6 : w6.cell? ⟨w.heap.size + 1 + 1, 3, none⟩ = some (.slice X3 x.orders.length d3) := by rw [cell_of_row _ _ _ _ _ _ hO6]; rfl
  have p3_6 : w6.cell? ⟨w.heap.size + 1, 3, none⟩ = some (.slice none 0 0) := by rw [cell_of_row _ _ _ _ _ _ hP6]; rfl
  have g3_6 : w6.frozen? ⟨w.heap.size + 1, 3, none⟩ = false := frozen_of_row _ _ _ _ _ hP6
  have o4_6 : w6.cell? ⟨w.heap.size + 1 + 1, 4, none⟩ = some (.slice X4 x.bookings.length d4) := by rw [cell_of_row _ _ _ _ _ _ hO6]; rfl
  have p4_6 : w6.cell? ⟨w.heap.size + 1, 4, none⟩ = some (.slice none 0 0) := by rw [cell_of_row _ _ _ _ _ _ hP6]; rfl
  have g4_6 : w6.frozen? ⟨w.heap.size + 1, 4, none⟩ = false := frozen_of_row _ _ _ _ _ hP6
  have o5_6 : w6.cell? ⟨w.heap.size + 1 + 1, 5, none⟩ = some (.slice X5 x.closed.length d5) := by rw [cell_of_row _ _ _ _ _ _ hO6]; rfl
  have p5_6 : w6.cell? ⟨w.heap.size + 1, 5, none⟩ = some (.slice none 0 0) := by rw [cell_of_row _ _ _ _ _ _ hP6]; rfl
  have g5_6 : w6.frozen? ⟨w.heap.size + 1, 5, none⟩ = false := frozen_of_row _ _ _ _ _ hP6
  have o6_6 : w6.cell? ⟨w.heap.size + 1 + 1, 6, none⟩ = some (.int .i64 x.now) := by rw [cell_of_row _ _ _ _ _ _ hO6]; rfl
  have p6_6 : w6.cell? ⟨w.heap.size + 1, 6, none⟩ = some (.int .i64 0) := by rw [cell_of_row _ _ _ _ _ _ hP6]; rfl
  have g6_6 : w6.frozen? ⟨w.heap.size + 1, 6, none⟩ = false := frozen_of_row _ _ _ _ _ hP6
  have o7_6 : w6.cell? ⟨w.heap.size + 1 + 1, 7, none⟩ = some (.slice X7 x.scans.length d7) := by rw [cell_of_row _ _ _ _ _ _ hO6]; rfl
  have p7_6 : w6.cell? ⟨w.heap.size + 1, 7, none⟩ = some (.slice none 0 0) := by rw [cell_of_row _ _ _ _ _ _ hP6]; rfl
  have g7_6 : w6.frozen? ⟨w.heap.size + 1, 7, none⟩ = false := frozen_of_row _ _ _ _ _ hP6
  have o8_6 : w6.cell? ⟨w.heap.size + 1 + 1, 8, none⟩ = some (.slice none 0 0) := by rw [cell_of_row _ _ _ _ _ _ hO6]; rfl
  have f8_6 : w6.frozen? ⟨w.heap.size + 1 + 1, 8, none⟩ = false := frozen_of_row _ _ _ _ _ hO6
  have p8_6 : w6.cell? ⟨w.heap.size + 1, 8, none⟩ = some (.slice none 0 0) := by rw [cell_of_row _ _ _ _ _ _ hP6]; rfl
  have g8_6 : w6.frozen? ⟨w.heap.size + 1, 8, none⟩ = false := frozen_of_row _ _ _ _ _ hP6
  have o9_6 : w6.cell? ⟨w.heap.size + 1 + 1, 9, none⟩ = some (.int .i64 0) := by rw [cell_of_row _ _ _ _ _ _ hO6]; rfl
  have f9_6 : w6.frozen? ⟨w.heap.size + 1 + 1, 9, none⟩ = false := frozen_of_row _ _ _ _ _ hO6
  have p9_6 : w6.cell? ⟨w.heap.size + 1, 9, none⟩ = some (.int .i64 0) := by rw [cell_of_row _ _ _ _ _ _ hP6]; rfl
  have g9_6 : w6.frozen? ⟨w.heap.size + 1, 9, none⟩ = false := frozen_of_row _ _ _ _ _ hP6
  have H_hA6 := Lib.hid hA6
  have H_hP6 := Lib.hid hP6
  have H_hO6 := Lib.hid hO6
  have H_hU6 := Lib.hid hU6
  have H_hu6 := Lib.hid hu6
  have H_s0 := Lib.hid s0
  have H_r0 := Lib.hid r0
  have H_s1 := Lib.hid s1
  have H_r1 := Lib.hid r1
  have H_s3 := Lib.hid s3
  have H_r3 := Lib.hid r3
  have H_s4 := Lib.hid s4
  have H_r4 := Lib.hid r4
  have H_s5 := Lib.hid s5
  have H_r5 := Lib.hid r5
  have H_s7 := Lib.hid s7
  have H_r7 := Lib.hid r7
  have H_s8 := Lib.hid s8
  have H_r8 := Lib.hid r8
  clear hA6 hP6 hO6 hU6 hu6 kw5 hUW5 hAW5 hPW5 hSW5 hcsz5 s0 s1 s3 s4 s5 s7 s8 r0 r1 r3 r4 r5 r7 r8 t0 t1 t3 t4 t5 t7 q0 q1 q3 q4 q5 q7 hA5 hP5 hO5 hU5 hs8_ hr8_
  go_wp2_with fail
  have hA6 := H_hA6.out
  have hP6 := H_hP6.out
  have hO6 := H_hO6.out
  have hU6 := H_hU6.out
  have s0 := H_s0.out; have r0 := H_r0.out
  have s1 := H_s1.out; have r1 := H_r1.out
  have s3 := H_s3.out; have r3 := H_r3.out
  have s4 := H_s4.out; have r4 := H_r4.out
  have s5 := H_s5.out; have r5 := H_r5.out
  have s7 := H_s7.out; have r7 := H_r7.out
  have s8 := H_s8.out; have r8 := H_r8.out
  have kw := ((Wr.start hO6).set 8 (.slice X8 x.skip.length d8)).set 9 (.int .i64 x.made)
  have hP := (kw.oth (w.heap.size + 1) (by omega)).trans hP6
  have kz := ((((((((((Wr.start hP).set 0 (.slice X0 x.network.legs.length d0)).set 1 (.slice X1 x.network.off.length d1)).set 2 (.int .i64 x.network.change)).set 3 (.slice X3 x.orders.length d3)).set 4 (.slice X4 x.bookings.length d4)).set 5 (.slice X5 x.closed.length d5)).set 6 (.int .i64 x.now)).set 7 (.slice X7 x.scans.length d7)).set 8 (.slice X8 x.skip.length d8)).set 9 (.int .i64 x.made)
  have hUz := Up.wr kz (Up.wr kw hU6 (by omega)) (by omega)
  have z0 := (s0.wr kw hO6 (by decide)).wr kz hP (by decide)
  have y0 := ((r0.sx_wr kw (by omega) hS1).sx_wr kz (by omega) (fun b h => by have := hS b h; omega)).sx_out (w := w) (by omega)
  have z1 := (s1.wr kw hO6 (by decide)).wr kz hP (by decide)
  have y1 := ((r1.sx_wr kw (by omega) hS1).sx_wr kz (by omega) (fun b h => by have := hS b h; omega)).sx_out (w := w) (by omega)
  have z3 := (s3.wr kw hO6 (by decide) (by decide)).wr kz hP (by decide) (by decide)
  have y3 := ((r3.sx_wr kw (by omega) hS1).sx_wr kz (by omega) (fun b h => by have := hS b h; omega)).sx_out (w := w) (by omega)
  have z4 := (s4.wr kw hO6 (by decide)).wr kz hP (by decide)
  have y4 := ((r4.sx_wr kw (by omega) hS1).sx_wr kz (by omega) (fun b h => by have := hS b h; omega)).sx_out (w := w) (by omega)
  have z5 := (s5.wr kw hO6 (by decide)).wr kz hP (by decide)
  have y5 := ((r5.sx_wr kw (by omega) hS1).sx_wr kz (by omega) (fun b h => by have := hS b h; omega)).sx_out (w := w) (by omega)
  have z7 := (s7.wr kw hO6 (by decide)).wr kz hP (by decide)
  have y7 := ((r7.sx_wr kw (by omega) hS1).sx_wr kz (by omega) (fun b h => by have := hS b h; omega)).sx_out (w := w) (by omega)
  have z8 := (s8.wr kw hO6 (by decide)).wr kz hP (by decide)
  have y8 := ((r8.sx_wr kw (by omega) hS1).sx_wr kz (by omega) (fun b h => by have := hS b h; omega)).sx_out (w := w) (by omega)
  have hrow := kz.row
  simp only [List.setIfInBounds_toArray, List.set_cons_zero, List.set_cons_succ] at hrow
  refine bodyPost_ret (v := .agg #[.slice X0 x.network.legs.length d0, .slice X1 x.network.off.length d1, .int .i64 x.network.change, .slice X3 x.orders.length d3, .slice X4 x.bookings.length d4, .slice X5 x.closed.length d5, .int .i64 x.now, .slice X7 x.scans.length d7, .slice X8 x.skip.length d8, .int .i64 x.made]) (results_cell_row Tryz.results12 _ _ (w.heap.size + 1) 42 _ (0, 0) _ rfl hrow Tryz.underlying42 rfl (by kernel_rfl)) rfl ?_
  exact ⟨_, _, _, _, _, _, _, rfl, hUz, ⟨z0, y0⟩, ⟨z1, y1⟩, ⟨z3, y3⟩, ⟨z4, y4⟩, ⟨z5, y5⟩, ⟨z7, y7⟩, ⟨z8, y8⟩⟩
end Go.Proofs.YtooikkfldddjfaaGreat

/- The mirror of impl.within, and that the code does just that (printed by a program of my own). -/
namespace Go.Proofs.YtooikkfldddjfaaGreat
set_option maxRecDepth 10000
open Go.RowKit
set_option linter.unusedVariables false
set_option maxHeartbeats 16000000
def m_impl_within (n : Int) (low : Int) (high : Int) : Option Bool :=
 cond (decide (low ≤ n))
 (some (decide (n ≤ high)))
 (some false)
theorem ok_impl_within (n : Int) (low : Int) (high : Int) {r : Bool} (H : m_impl_within n low high = some r) : CallM Tryz.prog 54 [vi n, vi low, vi high] [] (vb r) [] := by
  replace H := H0 H
  unfold m_impl_within at H
  refine callM_of Tryz.func54 rfl Tryz.ntmps54 Tryz.results54 fun Q hQ hQn => ?_
  exact wk
instance (n : Int) (low : Int) (high : Int) : CT Tryz.prog (m_impl_within n low high) := ⟨54, [vi n, vi low, vi high], [], fun r => vb r, fun r => [], ok_impl_within n low high⟩
end Go.Proofs.YtooikkfldddjfaaGreat

/- The mirror of impl.IsPlace, and that the code does just that (printed by a program of my own). -/
namespace Go.Proofs.YtooikkfldddjfaaGreat
set_option maxRecDepth 10000
open Go.RowKit
set_option linter.unusedVariables false
set_option maxHeartbeats 16000000
def m_impl_IsPlace_b0 (s : ByteArray) (s0 : Int) : Option (Int ⊕ (Unit ⊕ Bool)) :=
 cond (decide (s0 < (s.size : Int)))
 ((getB s s0).bind fun y1 =>
 cond (decide (y1 < 65))
 (some (.inr (.inr false)))
 ((getB s s0).bind fun y2 =>
 cond (decide (90 < y2))
 (some (.inr (.inr false)))
 (some (.inl (w64 (s0 + 1))))))
 (some (.inr (.inl ())))
instance (s : ByteArray) : LoopE (m_impl_IsPlace_b0 s) := ⟨fun s0 => [vs s, .un, .un, vi s0, .un, .un, .un, .un, .un, .un, .un, .un, .un, .un, .un, .un, .un, .un, .un, .un, .un, .un, .un], fun s0 => []⟩
def m_impl_IsPlace (s : ByteArray) : Option Bool :=
 (iterF (m_impl_IsPlace_b0 s) NN 0).bind (selim (fun o0 =>
 some (decide ((s.size : Int) = 3))) (fun r => some r))
theorem ok_impl_IsPlace (s : ByteArray) {r : Bool} (H : m_impl_IsPlace s = some r) : CallM Tryz.prog 133 [vs s] [] (vb r) [] := by
  replace H := H0 H
  unfold m_impl_IsPlace at H
  refine callM_of Tryz.func133 rfl Tryz.ntmps133 Tryz.results133 fun Q hQ hQn => ?_
  exact wk
instance (s : ByteArray) : CT Tryz.prog (m_impl_IsPlace s) := ⟨133, [vs s], [], fun r => vb r, fun r => [], ok_impl_IsPlace s⟩
end Go.Proofs.YtooikkfldddjfaaGreat

/- The mirror of impl.IsLeg, and that the code does just that (printed by a program of my own). -/
namespace Go.Proofs.YtooikkfldddjfaaGreat
set_option maxRecDepth 10000
open Go.RowKit
set_option linter.unusedVariables false
set_option maxHeartbeats 16000000
def m_impl_IsLeg (l : YLeg) : Option Bool :=
 (m_impl_IsPlace l.from_).bind fun y1 =>
 cond y1
 ((m_impl_IsPlace l.to_).bind fun y2 =>
 cond y2
 (cond (!decide (l.from_ = l.to_))
 ((m_impl_within l.start 0 1439).bind fun y3 =>
 cond y3
 ((m_impl_within l.takes 1 4320).bind fun y4 =>
 cond y4
 ((m_impl_within l.days 1 127).bind fun y5 =>
 cond y5
 ((m_impl_within l.room 0 1000000).bind fun y6 =>
 some y6)
 (some false))
 (some false))
 (some false))
 (some false))
 (some false))
 (some false)
theorem ok_impl_IsLeg (l : YLeg) {r : Bool} (H : m_impl_IsLeg l = some r) : CallM Tryz.prog 127 [.ag (cLeg l)] [] (vb r) [] := by
  replace H := H0 H
  unfold m_impl_IsLeg at H
  refine callM_of Tryz.func127 rfl Tryz.ntmps127 Tryz.results127 fun Q hQ hQn => ?_
  exact wk
instance (l : YLeg) : CT Tryz.prog (m_impl_IsLeg l) := ⟨127, [.ag (cLeg l)], [], fun r => vb r, fun r => [], ok_impl_IsLeg l⟩
end Go.Proofs.YtooikkfldddjfaaGreat

/- The mirror of impl.IsNetwork, and that the code does just that (printed by a program of my own). -/
namespace Go.Proofs.YtooikkfldddjfaaGreat
set_option maxRecDepth 10000
open Go.RowKit
set_option linter.unusedVariables false
set_option maxHeartbeats 16000000
def m_impl_IsNetwork_b0 (n : YNetwork) (s0 : Int) : Option (Int ⊕ (Unit ⊕ Bool)) :=
 cond (decide (s0 < (n.legs.length : Int)))
 ((getI n.legs s0).bind fun y1 =>
 (m_impl_IsLeg y1).bind fun y2 =>
 cond (!y2)
 (some (.inr (.inr false)))
 (some (.inl (w64 (s0 + 1)))))
 (some (.inr (.inl ())))
instance (n : YNetwork) : LoopE (m_impl_IsNetwork_b0 n) := ⟨fun s0 => [.un, .be 0 0 0, .un, .un, .un, .un, .un, .un, .sl (n.legs.map cLeg), vi (n.legs.length : Int), vi s0, .un, .un, .un, .un, .un, .un, .un, .un, .un, .un, .un, .un, .un, .un, .un, .un, .un, .un, .un, .un, .un, .un, .un, .un, .un, .un, .un, .un, .un, .un, .un, .un, .un, .un, .un, .un, .un, .un, .un, .un, .un, .un, .un, .un, .un, .un, .un, .un], fun s0 => [some ⟨36, 3, [[.sl (n.legs.map cLeg), .sl (n.off.map cInt), vi n.change]]⟩]⟩
def m_impl_IsNetwork_b1 (n : YNetwork) (s1 : Int) : Option (Int ⊕ (Unit ⊕ Bool)) :=
 cond (decide (s1 < (n.off.length : Int)))
 ((getI n.off s1).bind fun y3 =>
 (m_impl_within y3 0 60).bind fun y4 =>
 cond (!y4)
 (some (.inr (.inr false)))
 (cond (decide (0 < s1))
 ((getI n.off (w64 (s1 - 1))).bind fun y5 =>
 cond (decide (y3 ≤ y5))
 (some (.inr (.inr false)))
 (some (.inl (w64 (s1 + 1)))))
 (some (.inl (w64 (s1 + 1))))))
 (some (.inr (.inl ())))
instance (n : YNetwork) : LoopE (m_impl_IsNetwork_b1 n) := ⟨fun s1 => [.un, .be 0 0 0, .un, .un, .un, .un, .un, .un, .un, .un, .un, .un, .un, .un, .un, .un, .un, .un, .un, .sl (n.off.map cInt), vi (n.off.length : Int), vi s1, .un, .un, .un, .un, .un, .un, .un, .un, .un, .un, .un, .un, .un, .un, .un, .un, .un, .un, .un, .un, .un, .un, .un, .un, .un, .un, .un, .un, .un, .un, .un, .un, .un, .un, .un, .un, .un], fun s1 => [some ⟨36, 3, [[.sl (n.legs.map cLeg), .sl (n.off.map cInt), vi n.change]]⟩]⟩
def m_impl_IsNetwork (n : YNetwork) : Option Bool :=
 (iterF (m_impl_IsNetwork_b0 n) NN 0).bind (selim (fun o0 =>
 (iterF (m_impl_IsNetwork_b1 n) NN 0).bind (selim (fun o1 =>
 cond (decide ((n.legs.length : Int) ≤ 20))
 (cond (decide ((n.off.length : Int) ≤ 10))
 ((m_impl_within n.change 0 240).bind fun y6 =>
 some y6)
 (some false))
 (some false)) (fun r => some r))) (fun r => some r))
theorem ok_impl_IsNetwork (n : YNetwork) {r : Bool} (H : m_impl_IsNetwork n = some r) : CallM Tryz.prog 101 [.ag (cNetwork n)] [] (vb r) [] := by
  replace H := H0 H
  unfold m_impl_IsNetwork at H
  refine callM_of Tryz.func101 rfl Tryz.ntmps101 Tryz.results101 fun Q hQ hQn => ?_
  exact wk
instance (n : YNetwork) : CT Tryz.prog (m_impl_IsNetwork n) := ⟨101, [.ag (cNetwork n)], [], fun r => vb r, fun r => [], ok_impl_IsNetwork n⟩
end Go.Proofs.YtooikkfldddjfaaGreat

/- The mirror of spec.l1In, and that the code does just that (printed by a program of my own). -/
namespace Go.Proofs.YtooikkfldddjfaaGreat
set_option maxRecDepth 10000
open Go.RowKit
set_option linter.unusedVariables false
set_option maxHeartbeats 16000000
def m_spec_l1In (x : Int) (least : Int) (most : Int) : Option Bool :=
 cond (decide (least ≤ x))
 (some (decide (x ≤ most)))
 (some false)
theorem ok_spec_l1In (x : Int) (least : Int) (most : Int) {r : Bool} (H : m_spec_l1In x least most = some r) : CallM Tryz.prog 44 [vi x, vi least, vi most] [] (vb r) [] := by
  replace H := H0 H
  unfold m_spec_l1In at H
  refine callM_of Tryz.func44 rfl Tryz.ntmps44 Tryz.results44 fun Q hQ hQn => ?_
  exact wk
instance (x : Int) (least : Int) (most : Int) : CT Tryz.prog (m_spec_l1In x least most) := ⟨44, [vi x, vi least, vi most], [], fun r => vb r, fun r => [], ok_spec_l1In x least most⟩
end Go.Proofs.YtooikkfldddjfaaGreat

/- The mirror of spec.IsPlace, and that the code does just that (printed by a program of my own). -/
namespace Go.Proofs.YtooikkfldddjfaaGreat
set_option maxRecDepth 10000
open Go.RowKit
set_option linter.unusedVariables false
set_option maxHeartbeats 16000000
def m_spec_IsPlace_b0 (s : ByteArray) (s0 : Int) : Option (Int ⊕ (Unit ⊕ Bool)) :=
 cond (decide (s0 < 3))
 ((getB s s0).bind fun y1 =>
 (m_spec_l1In (IntKind.i64.wrap y1) 65 90).bind fun y2 =>
 cond (!y2)
 (some (.inr (.inr false)))
 (some (.inl (w64 (s0 + 1)))))
 (some (.inr (.inl ())))
instance (s : ByteArray) : LoopE (m_spec_IsPlace_b0 s) := ⟨fun s0 => [vs s, .un, .un, vi s0, .un, .un, .un, .un, .un, .un, .un, .un, .un, .un, .un, .un, .un], fun s0 => []⟩
def m_spec_IsPlace (s : ByteArray) : Option Bool :=
 cond (!decide ((s.size : Int) = 3))
 (some false)
 ((iterF (m_spec_IsPlace_b0 s) NN 0).bind (selim (fun o0 =>
 some true) (fun r => some r)))
theorem ok_spec_IsPlace (s : ByteArray) {r : Bool} (H : m_spec_IsPlace s = some r) : CallM Tryz.prog 132 [vs s] [] (vb r) [] := by
  replace H := H0 H
  unfold m_spec_IsPlace at H
  refine callM_of Tryz.func132 rfl Tryz.ntmps132 Tryz.results132 fun Q hQ hQn => ?_
  exact wk
instance (s : ByteArray) : CT Tryz.prog (m_spec_IsPlace s) := ⟨132, [vs s], [], fun r => vb r, fun r => [], ok_spec_IsPlace s⟩
end Go.Proofs.YtooikkfldddjfaaGreat

/- The mirror of spec.IsLeg, and that the code does just that (printed by a program of my own). -/
namespace Go.Proofs.YtooikkfldddjfaaGreat
set_option maxRecDepth 10000
open Go.RowKit
set_option linter.unusedVariables false
set_option maxHeartbeats 16000000
def m_spec_IsLeg (l : YLeg) : Option Bool :=
 (m_spec_IsPlace l.from_).bind fun y1 =>
 cond y1
 ((m_spec_IsPlace l.to_).bind fun y2 =>
 cond y2
 (cond (!decide (l.from_ = l.to_))
 ((m_spec_l1In l.start 0 1439).bind fun y3 =>
 cond y3
 ((m_spec_l1In l.takes 1 4320).bind fun y4 =>
 cond y4
 ((m_spec_l1In l.days 1 127).bind fun y5 =>
 cond y5
 ((m_spec_l1In l.room 0 1000000).bind fun y6 =>
 some y6)
 (some false))
 (some false))
 (some false))
 (some false))
 (some false))
 (some false)
theorem ok_spec_IsLeg (l : YLeg) {r : Bool} (H : m_spec_IsLeg l = some r) : CallM Tryz.prog 125 [.ag (cLeg l)] [] (vb r) [] := by
  replace H := H0 H
  unfold m_spec_IsLeg at H
  refine callM_of Tryz.func125 rfl Tryz.ntmps125 Tryz.results125 fun Q hQ hQn => ?_
  exact wk
instance (l : YLeg) : CT Tryz.prog (m_spec_IsLeg l) := ⟨125, [.ag (cLeg l)], [], fun r => vb r, fun r => [], ok_spec_IsLeg l⟩
end Go.Proofs.YtooikkfldddjfaaGreat

/- The mirror of spec.IsNetwork, and that the code does just that (printed by a program of my own). -/
namespace Go.Proofs.YtooikkfldddjfaaGreat
set_option maxRecDepth 10000
open Go.RowKit
set_option linter.unusedVariables false
set_option maxHeartbeats 16000000
def m_spec_IsNetwork_b0 (n : YNetwork) (s0 : Int) : Option (Int ⊕ (Unit ⊕ Bool)) :=
 cond (decide (s0 < (n.legs.length : Int)))
 ((getI n.legs s0).bind fun y1 =>
 (m_spec_IsLeg y1).bind fun y2 =>
 cond (!y2)
 (some (.inr (.inr false)))
 (some (.inl (w64 (s0 + 1)))))
 (some (.inr (.inl ())))
instance (n : YNetwork) : LoopE (m_spec_IsNetwork_b0 n) := ⟨fun s0 => [.un, .be 0 0 0, .un, vi s0, .un, .un, .un, .un, .un, .un, .un, .un, .un, .un, .un, .un, .un, .un, .un, .un, .un, .un, .un, .un, .un, .un, .un, .un, .un, .un, .un, .un, .un, .un, .un, .un, .un, .un, .un, .un, .un, .un, .un, .un, .un, .un, .un, .un, .un, .un, .un, .un, .un, .un, .un, .un, .un, .un, .un, .un, .un, .un, .un, .un, .un, .un], fun s0 => [some ⟨36, 3, [[.sl (n.legs.map cLeg), .sl (n.off.map cInt), vi n.change]]⟩]⟩
def m_spec_IsNetwork_b1 (n : YNetwork) (s1 : Int) : Option (Int ⊕ (Unit ⊕ Bool)) :=
 cond (decide (s1 < (n.off.length : Int)))
 ((getI n.off s1).bind fun y3 =>
 (m_spec_l1In y3 0 60).bind fun y4 =>
 cond (!y4)
 (some (.inr (.inr false)))
 (cond (decide (0 < s1))
 ((getI n.off (w64 (s1 - 1))).bind fun y5 =>
 (getI n.off s1).bind fun y6 =>
 cond (decide (y6 ≤ y5))
 (some (.inr (.inr false)))
 (some (.inl (w64 (s1 + 1)))))
 (some (.inl (w64 (s1 + 1))))))
 (some (.inr (.inl ())))
instance (n : YNetwork) : LoopE (m_spec_IsNetwork_b1 n) := ⟨fun s1 => [.un, .be 0 0 0, .un, .un, vi s1, .un, .un, .un, .un, .un, .un, .un, .un, .un, .un, .un, .un, .un, .un, .un, .un, .un, .un, .un, .un, .un, .un, .un, .un, .un, .un, .un, .un, .un, .un, .un, .un, .un, .un, .un, .un, .un, .un, .un, .un, .un, .un, .un, .un, .un, .un, .un, .un, .un, .un, .un, .un, .un, .un, .un, .un, .un, .un, .un, .un, .un], fun s1 => [some ⟨36, 3, [[.sl (n.legs.map cLeg), .sl (n.off.map cInt), vi n.change]]⟩]⟩
def m_spec_IsNetwork (n : YNetwork) : Option Bool :=
 (iterF (m_spec_IsNetwork_b0 n) NN 0).bind (selim (fun o0 =>
 (iterF (m_spec_IsNetwork_b1 n) NN 0).bind (selim (fun o1 =>
 cond (decide ((n.legs.length : Int) ≤ 20))
 (cond (decide ((n.off.length : Int) ≤ 10))
 ((m_spec_l1In n.change 0 240).bind fun y7 =>
 some y7)
 (some false))
 (some false)) (fun r => some r))) (fun r => some r))
theorem ok_spec_IsNetwork (n : YNetwork) {r : Bool} (H : m_spec_IsNetwork n = some r) : CallM Tryz.prog 87 [.ag (cNetwork n)] [] (vb r) [] := by
  replace H := H0 H
  unfold m_spec_IsNetwork at H
  refine callM_of Tryz.func87 rfl Tryz.ntmps87 Tryz.results87 fun Q hQ hQn => ?_
  exact wk
instance (n : YNetwork) : CT Tryz.prog (m_spec_IsNetwork n) := ⟨87, [.ag (cNetwork n)], [], fun r => vb r, fun r => [], ok_spec_IsNetwork n⟩
end Go.Proofs.YtooikkfldddjfaaGreat

/- The mirror of impl.starts, and that the code does just that (printed by a program of my own). -/
namespace Go.Proofs.YtooikkfldddjfaaGreat
set_option maxRecDepth 10000
open Go.RowKit
set_option linter.unusedVariables false
set_option maxHeartbeats 16000000
def m_impl_starts (n : YNetwork) (t : YTrip) : Option Int :=
 (getI n.legs t.leg).bind fun y1 =>
 some (w64 ((w64 (t.day * 1440)) + y1.start))
theorem ok_impl_starts (n : YNetwork) (t : YTrip) {r : Int} (H : m_impl_starts n t = some r) : CallM Tryz.prog 106 [.ag (cNetwork n), .ag (cTrip t)] [] (vi r) [] := by
  replace H := H0 H
  unfold m_impl_starts at H
  refine callM_of Tryz.func106 rfl Tryz.ntmps106 Tryz.results106 fun Q hQ hQn => ?_
  exact wk
instance (n : YNetwork) (t : YTrip) : CT Tryz.prog (m_impl_starts n t) := ⟨106, [.ag (cNetwork n), .ag (cTrip t)], [], fun r => vi r, fun r => [], ok_impl_starts n t⟩
end Go.Proofs.YtooikkfldddjfaaGreat

/- The mirror of impl.ends, and that the code does just that (printed by a program of my own). -/
namespace Go.Proofs.YtooikkfldddjfaaGreat
set_option maxRecDepth 10000
open Go.RowKit
set_option linter.unusedVariables false
set_option maxHeartbeats 16000000
def m_impl_ends (n : YNetwork) (t : YTrip) : Option Int :=
 (m_impl_starts n t).bind fun y1 =>
 (getI n.legs t.leg).bind fun y2 =>
 some (w64 (y1 + y2.takes))
theorem ok_impl_ends (n : YNetwork) (t : YTrip) {r : Int} (H : m_impl_ends n t = some r) : CallM Tryz.prog 67 [.ag (cNetwork n), .ag (cTrip t)] [] (vi r) [] := by
  replace H := H0 H
  unfold m_impl_ends at H
  refine callM_of Tryz.func67 rfl Tryz.ntmps67 Tryz.results67 fun Q hQ hQn => ?_
  exact wk
instance (n : YNetwork) (t : YTrip) : CT Tryz.prog (m_impl_ends n t) := ⟨67, [.ag (cNetwork n), .ag (cTrip t)], [], fun r => vi r, fun r => [], ok_impl_ends n t⟩
end Go.Proofs.YtooikkfldddjfaaGreat

/- The mirror of spec.l3Starts, and that the code does just that (printed by a program of my own). -/
namespace Go.Proofs.YtooikkfldddjfaaGreat
set_option maxRecDepth 10000
open Go.RowKit
set_option linter.unusedVariables false
set_option maxHeartbeats 16000000
def m_spec_l3Starts (n : YNetwork) (t : YTrip) : Option Int :=
 (getI n.legs t.leg).bind fun y1 =>
 some (w64 ((w64 (t.day * 1440)) + y1.start))
theorem ok_spec_l3Starts (n : YNetwork) (t : YTrip) {r : Int} (H : m_spec_l3Starts n t = some r) : CallM Tryz.prog 68 [.ag (cNetwork n), .ag (cTrip t)] [] (vi r) [] := by
  replace H := H0 H
  unfold m_spec_l3Starts at H
  refine callM_of Tryz.func68 rfl Tryz.ntmps68 Tryz.results68 fun Q hQ hQn => ?_
  exact wk
instance (n : YNetwork) (t : YTrip) : CT Tryz.prog (m_spec_l3Starts n t) := ⟨68, [.ag (cNetwork n), .ag (cTrip t)], [], fun r => vi r, fun r => [], ok_spec_l3Starts n t⟩
end Go.Proofs.YtooikkfldddjfaaGreat

/- The mirror of spec.l3Ends, and that the code does just that (printed by a program of my own). -/
namespace Go.Proofs.YtooikkfldddjfaaGreat
set_option maxRecDepth 10000
open Go.RowKit
set_option linter.unusedVariables false
set_option maxHeartbeats 16000000
def m_spec_l3Ends (n : YNetwork) (t : YTrip) : Option Int :=
 (m_spec_l3Starts n t).bind fun y1 =>
 (getI n.legs t.leg).bind fun y2 =>
 some (w64 (y1 + y2.takes))
theorem ok_spec_l3Ends (n : YNetwork) (t : YTrip) {r : Int} (H : m_spec_l3Ends n t = some r) : CallM Tryz.prog 65 [.ag (cNetwork n), .ag (cTrip t)] [] (vi r) [] := by
  replace H := H0 H
  unfold m_spec_l3Ends at H
  refine callM_of Tryz.func65 rfl Tryz.ntmps65 Tryz.results65 fun Q hQ hQn => ?_
  exact wk
instance (n : YNetwork) (t : YTrip) : CT Tryz.prog (m_spec_l3Ends n t) := ⟨65, [.ag (cNetwork n), .ag (cTrip t)], [], fun r => vi r, fun r => [], ok_spec_l3Ends n t⟩
end Go.Proofs.YtooikkfldddjfaaGreat

/- The two sides' functions on places, legs and networks answer alike. -/
namespace Go.Proofs.YtooikkfldddjfaaGreat
set_option maxRecDepth 10000
open Go.RowKit
set_option linter.unusedVariables false
set_option linter.unusedSimpArgs false
theorem within_v (n l h : Int) : m_impl_within n l h = some (decide (l ≤ n) && decide (n ≤ h)) := by
  unfold m_impl_within; cases decide (l ≤ n) <;> rfl
theorem l1In_v (n l h : Int) : m_spec_l1In n l h = some (decide (l ≤ n) && decide (n ≤ h)) := by
  unfold m_spec_l1In; cases decide (l ≤ n) <;> rfl
theorem within_eq : @m_impl_within = @m_spec_l1In := by funext n l h; rw [within_v, l1In_v]
theorem getB_in {s : ByteArray} {i c : Int} (h : getB s i = some c) : 0 ≤ c ∧ c ≤ 255 := by
  unfold getB at h
  split at h
  · cases h
    unfold byteAt
    cases hb : s[i.toNat]? with
    | none => simp
    | some b =>
      have := b.toNat_lt
      simp only [Option.map_some, Option.getD_some]
      omega
  · cases h
theorem placeB_eq {s : ByteArray} (hs : s.size = 3) : m_impl_IsPlace_b0 s = m_spec_IsPlace_b0 s := by
  funext i
  unfold m_impl_IsPlace_b0 m_spec_IsPlace_b0
  rw [hs]
  cases hi : decide (i < 3) with
  | false => simp [hi]
  | true =>
    simp only [show ((3 : Nat) : Int) = 3 from rfl, hi, cond_true]
    cases hg : getB s i with
    | none => rfl
    | some y =>
      obtain ⟨h0, h1⟩ := getB_in hg
      simp only [Option.bind_some, hg]
      rw [show IntKind.i64.wrap y = y from w64_in (by omega), l1In_v]
      simp only [Option.bind_some]
      by_cases h2 : y < 65
      · simp [h2, show ¬ (65 ≤ y) by omega]
      · by_cases h3 : 90 < y
        · simp [h2, h3, show ¬ (y ≤ 90) by omega]
        · simp [h2, h3, show 65 ≤ y by omega, show y ≤ 90 by omega]
theorem getB_some {s : ByteArray} {i : Nat} (h : i < s.size) : ∃ c, getB s (i : Int) = some c := by
  unfold getB; exact ⟨_, if_pos ⟨by omega, by omega⟩⟩
/-- The loop over a place's bytes comes to an end. -/
theorem placeL_some {s : ByteArray} (hs : s.size ≤ 1152921504606846000) : ∀ (k i N : Nat), i + k = s.size → k < N → ∃ o, iterF (m_impl_IsPlace_b0 s) N (i : Int) = some o ∧ (o = .inl () ∨ o = .inr false) := by
  intro k
  induction k with
  | zero =>
    intro i N hi hk
    cases N with
    | zero => omega
    | succ N => exact ⟨.inl (), by simp [iterF, m_impl_IsPlace_b0, show ¬ ((i : Int) < s.size) by omega], .inl rfl⟩
  | succ k ih =>
    intro i N hi hk
    cases N with
    | zero => omega
    | succ N =>
      obtain ⟨c, hc⟩ := getB_some (s := s) (i := i) (by omega)
      have hw := w64_nat (i := i) (n := s.size) (by omega) (by omega)
      by_cases h2 : c < 65
      · exact ⟨.inr false, by simp [iterF, m_impl_IsPlace_b0, show (i : Int) < s.size by omega, hc, h2], .inr rfl⟩
      · by_cases h3 : 90 < c
        · exact ⟨.inr false, by simp [iterF, m_impl_IsPlace_b0, show (i : Int) < s.size by omega, hc, h2, h3], .inr rfl⟩
        · obtain ⟨o, ho, hoo⟩ := ih (i + 1) N (by omega) (by omega)
          refine ⟨o, ?_, hoo⟩
          simp only [iterF, m_impl_IsPlace_b0, decide_eq_true (show (i : Int) < s.size by omega), cond_true, hc, Option.bind_some, decide_eq_false h2, decide_eq_false h3, cond_false, hw]
          exact ho
theorem isPlace_eq {s : ByteArray} (hs : s.size ≤ 1152921504606846000) : m_impl_IsPlace s = m_spec_IsPlace s ∧ ∃ b, m_spec_IsPlace s = some b := by
  obtain ⟨o, ho, hoo⟩ := placeL_some hs s.size 0 NN (by omega) (by unfold NN; omega)
  have ho' : iterF (m_impl_IsPlace_b0 s) NN 0 = some o := ho
  by_cases h3 : s.size = 3
  · have e : m_spec_IsPlace s = (iterF (m_impl_IsPlace_b0 s) NN 0).bind (selim (fun _ => some true) (fun r => some r)) := by
      unfold m_spec_IsPlace; rw [placeB_eq h3, h3]; rfl
    have e2 : m_impl_IsPlace s = (iterF (m_impl_IsPlace_b0 s) NN 0).bind (selim (fun _ => some (decide ((s.size : Int) = 3))) (fun r => some r)) := rfl
    rw [e, e2, ho', h3]
    rcases hoo with rfl | rfl
    · exact ⟨rfl, _, rfl⟩
    · exact ⟨rfl, _, rfl⟩
  · have e : m_spec_IsPlace s = some false := by unfold m_spec_IsPlace; rw [decide_eq_false (by omega)]; rfl
    have e2 : m_impl_IsPlace s = some false := by
      unfold m_impl_IsPlace; rw [ho']
      rcases hoo with rfl | rfl
      · show some _ = some _; rw [decide_eq_false (by omega)]
      · rfl
    exact ⟨by rw [e, e2], _, e⟩
theorem starts_eq : @m_impl_starts = @m_spec_l3Starts := rfl
theorem ends_eq : @m_impl_ends = @m_spec_l3Ends := rfl
def B60 : Nat := 1152921504606846000
def legFit (l : YLeg) : Prop := l.from_.size ≤ B60 ∧ l.to_.size ≤ B60
theorem isLeg_eq {l : YLeg} (h : legFit l) : m_impl_IsLeg l = m_spec_IsLeg l ∧ ∃ b, m_spec_IsLeg l = some b := by
  obtain ⟨e1, b1, s1⟩ := isPlace_eq (s := l.from_) h.1
  obtain ⟨e2, b2, s2⟩ := isPlace_eq (s := l.to_) h.2
  constructor
  · unfold m_impl_IsLeg m_spec_IsLeg; rw [e1, e2, within_eq]
  · unfold m_spec_IsLeg
    rw [s1, s2]
    simp only [Option.bind_some, l1In_v]
    cases b1 <;> cases b2 <;> cases (decide (l.from_ = l.to_)) <;> cases (decide (0 ≤ l.start) && decide (l.start ≤ 1439)) <;> cases (decide (1 ≤ l.takes) && decide (l.takes ≤ 4320)) <;> cases (decide (1 ≤ l.days) && decide (l.days ≤ 127)) <;> exact ⟨_, rfl⟩
structure NetFit (n : YNetwork) : Prop where
  legs : n.legs.length ≤ 1048576
  off : n.off.length ≤ 1048576
  leg : ∀ l ∈ n.legs, legFit l
theorem getI_mem {α : Type} {xs : List α} {i : Int} {x : α} (h : getI xs i = some x) : x ∈ xs := List.mem_of_getElem? (getI_some h).2
theorem netB0_eq {n : YNetwork} (h : NetFit n) : m_impl_IsNetwork_b0 n = m_spec_IsNetwork_b0 n := by
  funext i
  unfold m_impl_IsNetwork_b0 m_spec_IsNetwork_b0
  cases hg : getI n.legs i with
  | none => rfl
  | some y => simp only [Option.bind_some, (isLeg_eq (h.leg y (getI_mem hg))).1]
theorem netB1_eq {n : YNetwork} : m_impl_IsNetwork_b1 n = m_spec_IsNetwork_b1 n := by
  funext i
  unfold m_impl_IsNetwork_b1 m_spec_IsNetwork_b1
  rw [within_eq]
  cases hg : getI n.off i with
  | none => rfl
  | some y => simp only [Option.bind_some]
theorem netL0 {n : YNetwork} (h : NetFit n) : ∃ o, iterF (m_spec_IsNetwork_b0 n) NN 0 = some o := by
  refine iter_idx (n := n.legs.length) (by have := h.legs; unfold NN; omega) (fun i hi => ?_) ⟨_, by simp [m_spec_IsNetwork_b0]; rfl⟩
  have hw := w64_nat hi (by have := h.legs; omega)
  have hg : getI n.legs (i : Int) = some n.legs[i] := by rw [getI_nat]; exact List.getElem?_eq_getElem hi
  obtain ⟨b, hb⟩ := (isLeg_eq (h.leg _ (List.getElem_mem hi))).2
  cases b with
  | true => exact st_go (by simp only [m_spec_IsNetwork_b0, decide_eq_true (show (i : Int) < n.legs.length by omega), cond_true, hg, Option.bind_some, hb, hw, Bool.not_true, cond_false])
  | false => exact st_out (by simp only [m_spec_IsNetwork_b0, decide_eq_true (show (i : Int) < n.legs.length by omega), cond_true, hg, Option.bind_some, hb, Bool.not_false, cond_true]; rfl)
theorem netL1 {n : YNetwork} (h : NetFit n) : ∃ o, iterF (m_spec_IsNetwork_b1 n) NN 0 = some o := by
  refine iter_idx (n := n.off.length) (by have := h.off; unfold NN; omega) (fun i hi => ?_) ⟨_, by simp [m_spec_IsNetwork_b1]; rfl⟩
  have hw := w64_nat hi (by have := h.off; omega)
  have hg : getI n.off (i : Int) = some n.off[i] := by rw [getI_nat]; exact List.getElem?_eq_getElem hi
  have hd := decide_eq_true (show (i : Int) < n.off.length by omega)
  cases hb : decide (0 ≤ n.off[i]) && decide (n.off[i] ≤ 60) with
  | false => exact st_out (by simp only [m_spec_IsNetwork_b1, hd, cond_true, hg, Option.bind_some, l1In_v, hb, Bool.not_false]; rfl)
  | true =>
    by_cases h0 : 0 < (i : Int)
    · have hw2 : w64 ((i : Int) - 1) = ((i - 1 : Nat) : Int) := by rw [w64_in (by have := h.off; omega)]; omega
      have hg2 : getI n.off ((i - 1 : Nat) : Int) = some n.off[i - 1] := by rw [getI_nat]; exact List.getElem?_eq_getElem (by omega)
      cases hc : decide (n.off[i] ≤ n.off[i - 1]) with
      | true => exact st_out (by simp only [m_spec_IsNetwork_b1, hd, cond_true, hg, Option.bind_some, l1In_v, hb, Bool.not_true, cond_false, decide_eq_true h0, hw2, hg2, hc]; rfl)
      | false => exact st_go (by simp only [m_spec_IsNetwork_b1, hd, cond_true, hg, Option.bind_some, l1In_v, hb, Bool.not_true, cond_false, decide_eq_true h0, hw2, hg2, hc, hw])
    · exact st_go (by simp only [m_spec_IsNetwork_b1, hd, cond_true, hg, Option.bind_some, l1In_v, hb, Bool.not_true, cond_false, decide_eq_false h0, hw])
theorem isNetwork_eq {n : YNetwork} (h : NetFit n) : m_impl_IsNetwork n = m_spec_IsNetwork n ∧ ∃ b, m_spec_IsNetwork n = some b := by
  constructor
  · unfold m_impl_IsNetwork m_spec_IsNetwork; rw [netB0_eq h, netB1_eq, within_eq]
  · obtain ⟨o0, h0⟩ := netL0 h
    obtain ⟨o1, h1⟩ := netL1 h
    unfold m_spec_IsNetwork
    rw [h0, h1]
    simp only [Option.bind_some, l1In_v]
    rcases o0 with o0 | o0
    · rcases o1 with o1 | o1
      · simp only [selim]
        cases decide ((n.legs.length : Int) ≤ 20) <;> cases decide ((n.off.length : Int) ≤ 10) <;> exact ⟨_, rfl⟩
      · exact ⟨_, rfl⟩
    · exact ⟨_, rfl⟩
end Go.Proofs.YtooikkfldddjfaaGreat

/- The mirror of impl.runs, and that the code does just that (printed by a program of my own). -/
namespace Go.Proofs.YtooikkfldddjfaaGreat
set_option maxRecDepth 10000
open Go.RowKit
set_option linter.unusedVariables false
set_option maxHeartbeats 16000000
def m_impl_runs_b0 (n : YNetwork) (day : Int) (s0 : Int) : Option (Int ⊕ (Unit ⊕ Bool)) :=
 cond (decide (s0 < (n.off.length : Int)))
 ((getI n.off s0).bind fun y3 =>
 cond (decide (y3 = day))
 (some (.inr (.inr false)))
 (some (.inl (w64 (s0 + 1)))))
 (some (.inr (.inl ())))
instance (n : YNetwork) (day : Int) : LoopE (m_impl_runs_b0 n day) := ⟨fun s0 => [.un, .un, vi day, .un, .un, .un, .un, .un, .un, .un, .un, .un, .un, .un, .un, .un, .un, .un, .un, .un, .un, .un, .un, .un, .un, .un, .un, .un, .un, .un, .un, .un, .un, .un, .un, .un, .un, .sl (n.off.map cInt), vi (n.off.length : Int), vi s0, .un, .un, .un, .un, .un, .un, .un], fun s0 => []⟩
def m_impl_runs (n : YNetwork) (leg : Int) (day : Int) : Option Bool :=
 cond (decide (leg < 0))
 (some false)
 (cond (decide ((n.legs.length : Int) ≤ leg))
 (some false)
 ((m_impl_within day 0 60).bind fun y1 =>
 cond (!y1)
 (some false)
 ((getI n.legs leg).bind fun y2 =>
 (chk (decide (0 ≤ (Int.tmod day 7)))).bind fun _ =>
 cond (decide ((IntKind.i64.wrap (BitVec.ofInt IntKind.i64.bits (Int.fdiv y2.days (2 ^ (min (Int.toNat (Int.tmod day 7)) IntKind.i64.bits))) &&& BitVec.ofInt IntKind.i64.bits 1).toNat) = 0))
 (some false)
 ((iterF (m_impl_runs_b0 n day) NN 0).bind (selim (fun o0 =>
 some true) (fun r => some r))))))
theorem ok_impl_runs (n : YNetwork) (leg : Int) (day : Int) {r : Bool} (H : m_impl_runs n leg day = some r) : CallM Tryz.prog 130 [.ag (cNetwork n), vi leg, vi day] [] (vb r) [] := by
  replace H := H0 H
  unfold m_impl_runs at H
  refine callM_of Tryz.func130 rfl Tryz.ntmps130 Tryz.results130 fun Q hQ hQn => ?_
  exact wk
instance (n : YNetwork) (leg : Int) (day : Int) : CT Tryz.prog (m_impl_runs n leg day) := ⟨130, [.ag (cNetwork n), vi leg, vi day], [], fun r => vb r, fun r => [], ok_impl_runs n leg day⟩
end Go.Proofs.YtooikkfldddjfaaGreat

/- The mirror of impl.RunsOn, and that the code does just that (printed by a program of my own). -/
namespace Go.Proofs.YtooikkfldddjfaaGreat
set_option maxRecDepth 10000
open Go.RowKit
set_option linter.unusedVariables false
set_option maxHeartbeats 16000000
def m_impl_RunsOn (n : YNetwork) (leg : Int) (day : Int) : Option Bool :=
 (m_impl_IsNetwork n).bind fun y1 =>
 cond y1
 ((m_impl_runs n leg day).bind fun y2 =>
 some y2)
 (some false)
theorem ok_impl_RunsOn (n : YNetwork) (leg : Int) (day : Int) {r : Bool} (H : m_impl_RunsOn n leg day = some r) : CallM Tryz.prog 104 [.ag (cNetwork n), vi leg, vi day] [] (vb r) [] := by
  replace H := H0 H
  unfold m_impl_RunsOn at H
  refine callM_of Tryz.func104 rfl Tryz.ntmps104 Tryz.results104 fun Q hQ hQn => ?_
  exact wk
instance (n : YNetwork) (leg : Int) (day : Int) : CT Tryz.prog (m_impl_RunsOn n leg day) := ⟨104, [.ag (cNetwork n), vi leg, vi day], [], fun r => vb r, fun r => [], ok_impl_RunsOn n leg day⟩
end Go.Proofs.YtooikkfldddjfaaGreat

/- The mirror of impl.IsTrip, and that the code does just that (printed by a program of my own). -/
namespace Go.Proofs.YtooikkfldddjfaaGreat
set_option maxRecDepth 10000
open Go.RowKit
set_option linter.unusedVariables false
set_option maxHeartbeats 16000000
def m_impl_IsTrip (n : YNetwork) (t : YTrip) : Option Bool :=
 (m_impl_RunsOn n t.leg t.day).bind fun y1 =>
 some y1
theorem ok_impl_IsTrip (n : YNetwork) (t : YTrip) {r : Bool} (H : m_impl_IsTrip n t = some r) : CallM Tryz.prog 55 [.ag (cNetwork n), .ag (cTrip t)] [] (vb r) [] := by
  replace H := H0 H
  unfold m_impl_IsTrip at H
  refine callM_of Tryz.func55 rfl Tryz.ntmps55 Tryz.results55 fun Q hQ hQn => ?_
  exact wk
instance (n : YNetwork) (t : YTrip) : CT Tryz.prog (m_impl_IsTrip n t) := ⟨55, [.ag (cNetwork n), .ag (cTrip t)], [], fun r => vb r, fun r => [], ok_impl_IsTrip n t⟩
end Go.Proofs.YtooikkfldddjfaaGreat

/- The mirror of spec.l1Has, and that the code does just that (printed by a program of my own). -/
namespace Go.Proofs.YtooikkfldddjfaaGreat
set_option maxRecDepth 10000
open Go.RowKit
set_option linter.unusedVariables false
set_option maxHeartbeats 16000000
def m_spec_l1Has_b0 (l : List Int) (x : Int) (s0 : Int) : Option (Int ⊕ (Unit ⊕ Bool)) :=
 cond (decide (s0 < (l.length : Int)))
 ((getI l s0).bind fun y1 =>
 cond (decide (y1 = x))
 (some (.inr (.inr true)))
 (some (.inl (w64 (s0 + 1)))))
 (some (.inr (.inl ())))
instance (l : List Int) (x : Int) : LoopE (m_spec_l1Has_b0 l x) := ⟨fun s0 => [.sl (l.map cInt), vi x, .un, .un, .un, vi s0, .un, .un, .un, .un, .un, .un, .un, .un, .un, .un, .un, .un], fun s0 => []⟩
def m_spec_l1Has (l : List Int) (x : Int) : Option Bool :=
 (iterF (m_spec_l1Has_b0 l x) NN 0).bind (selim (fun o0 =>
 some false) (fun r => some r))
theorem ok_spec_l1Has (l : List Int) (x : Int) {r : Bool} (H : m_spec_l1Has l x = some r) : CallM Tryz.prog 90 [.sl (l.map cInt), vi x] [] (vb r) [] := by
  replace H := H0 H
  unfold m_spec_l1Has at H
  refine callM_of Tryz.func90 rfl Tryz.ntmps90 Tryz.results90 fun Q hQ hQn => ?_
  exact wk
instance (l : List Int) (x : Int) : CT Tryz.prog (m_spec_l1Has l x) := ⟨90, [.sl (l.map cInt), vi x], [], fun r => vb r, fun r => [], ok_spec_l1Has l x⟩
end Go.Proofs.YtooikkfldddjfaaGreat

/- The mirror of spec.l3Runs, and that the code does just that (printed by a program of my own). -/
namespace Go.Proofs.YtooikkfldddjfaaGreat
set_option maxRecDepth 10000
open Go.RowKit
set_option linter.unusedVariables false
set_option maxHeartbeats 16000000
def m_spec_l3Runs (n : YNetwork) (leg : Int) (day : Int) : Option Bool :=
 (m_spec_l1In leg 0 (w64 ((n.legs.length : Int) - 1))).bind fun y1 =>
 cond y1
 ((m_spec_l1In day 0 60).bind fun y2 =>
 cond y2
 ((getI n.legs leg).bind fun y3 =>
 (chk (decide (0 ≤ (Int.tmod day 7)))).bind fun _ =>
 cond (decide ((IntKind.i64.wrap (BitVec.ofInt IntKind.i64.bits (Int.fdiv y3.days (2 ^ (min (Int.toNat (Int.tmod day 7)) IntKind.i64.bits))) &&& BitVec.ofInt IntKind.i64.bits 1).toNat) = 1))
 ((m_spec_l1Has n.off day).bind fun y4 =>
 some (!y4))
 (some false))
 (some false))
 (some false)
theorem ok_spec_l3Runs (n : YNetwork) (leg : Int) (day : Int) {r : Bool} (H : m_spec_l3Runs n leg day = some r) : CallM Tryz.prog 45 [.ag (cNetwork n), vi leg, vi day] [] (vb r) [] := by
  replace H := H0 H
  unfold m_spec_l3Runs at H
  refine callM_of Tryz.func45 rfl Tryz.ntmps45 Tryz.results45 fun Q hQ hQn => ?_
  exact wk
instance (n : YNetwork) (leg : Int) (day : Int) : CT Tryz.prog (m_spec_l3Runs n leg day) := ⟨45, [.ag (cNetwork n), vi leg, vi day], [], fun r => vb r, fun r => [], ok_spec_l3Runs n leg day⟩
end Go.Proofs.YtooikkfldddjfaaGreat

/- The mirror of spec.RunsOn, and that the code does just that (printed by a program of my own). -/
namespace Go.Proofs.YtooikkfldddjfaaGreat
set_option maxRecDepth 10000
open Go.RowKit
set_option linter.unusedVariables false
set_option maxHeartbeats 16000000
def m_spec_RunsOn (n : YNetwork) (leg : Int) (day : Int) : Option Bool :=
 (m_spec_IsNetwork n).bind fun y1 =>
 cond y1
 ((m_spec_l3Runs n leg day).bind fun y2 =>
 some y2)
 (some false)
theorem ok_spec_RunsOn (n : YNetwork) (leg : Int) (day : Int) {r : Bool} (H : m_spec_RunsOn n leg day = some r) : CallM Tryz.prog 126 [.ag (cNetwork n), vi leg, vi day] [] (vb r) [] := by
  replace H := H0 H
  unfold m_spec_RunsOn at H
  refine callM_of Tryz.func126 rfl Tryz.ntmps126 Tryz.results126 fun Q hQ hQn => ?_
  exact wk
instance (n : YNetwork) (leg : Int) (day : Int) : CT Tryz.prog (m_spec_RunsOn n leg day) := ⟨126, [.ag (cNetwork n), vi leg, vi day], [], fun r => vb r, fun r => [], ok_spec_RunsOn n leg day⟩
end Go.Proofs.YtooikkfldddjfaaGreat

/- The mirror of spec.IsTrip, and that the code does just that (printed by a program of my own). -/
namespace Go.Proofs.YtooikkfldddjfaaGreat
set_option maxRecDepth 10000
open Go.RowKit
set_option linter.unusedVariables false
set_option maxHeartbeats 16000000
def m_spec_IsTrip (n : YNetwork) (t : YTrip) : Option Bool :=
 (m_spec_RunsOn n t.leg t.day).bind fun y1 =>
 some y1
theorem ok_spec_IsTrip (n : YNetwork) (t : YTrip) {r : Bool} (H : m_spec_IsTrip n t = some r) : CallM Tryz.prog 93 [.ag (cNetwork n), .ag (cTrip t)] [] (vb r) [] := by
  replace H := H0 H
  unfold m_spec_IsTrip at H
  refine callM_of Tryz.func93 rfl Tryz.ntmps93 Tryz.results93 fun Q hQ hQn => ?_
  exact wk
instance (n : YNetwork) (t : YTrip) : CT Tryz.prog (m_spec_IsTrip n t) := ⟨93, [.ag (cNetwork n), .ag (cTrip t)], [], fun r => vb r, fun r => [], ok_spec_IsTrip n t⟩
end Go.Proofs.YtooikkfldddjfaaGreat

/- The mirror of impl.hasTrip, and that the code does just that (printed by a program of my own). -/
namespace Go.Proofs.YtooikkfldddjfaaGreat
set_option maxRecDepth 10000
open Go.RowKit
set_option linter.unusedVariables false
set_option maxHeartbeats 16000000
def m_impl_hasTrip_b0 (l : List YTrip) (t : YTrip) (s0 : Int) : Option (Int ⊕ (Unit ⊕ Bool)) :=
 cond (decide (s0 < (l.length : Int)))
 ((getI l s0).bind fun y1 =>
 cond (decide (y1 = t))
 (some (.inr (.inr true)))
 (some (.inl (w64 (s0 + 1)))))
 (some (.inr (.inl ())))
instance (l : List YTrip) (t : YTrip) : LoopE (m_impl_hasTrip_b0 l t) := ⟨fun s0 => [.un, .un, .un, .be 0 0 0, .un, .un, .un, .sl (l.map cTrip), vi (l.length : Int), vi s0, .un, .un, .un, .un, .un, .un, .un], fun s0 => [some ⟨57, 2, [[vi t.leg, vi t.day]]⟩]⟩
def m_impl_hasTrip (l : List YTrip) (t : YTrip) : Option Bool :=
 (iterF (m_impl_hasTrip_b0 l t) NN 0).bind (selim (fun o0 =>
 some false) (fun r => some r))
theorem ok_impl_hasTrip (l : List YTrip) (t : YTrip) {r : Bool} (H : m_impl_hasTrip l t = some r) : CallM Tryz.prog 56 [.sl (l.map cTrip), .ag (cTrip t)] [] (vb r) [] := by
  replace H := H0 H
  unfold m_impl_hasTrip at H
  refine callM_of Tryz.func56 rfl Tryz.ntmps56 Tryz.results56 fun Q hQ hQn => ?_
  exact wk
instance (l : List YTrip) (t : YTrip) : CT Tryz.prog (m_impl_hasTrip l t) := ⟨56, [.sl (l.map cTrip), .ag (cTrip t)], [], fun r => vb r, fun r => [], ok_impl_hasTrip l t⟩
end Go.Proofs.YtooikkfldddjfaaGreat

/- The mirror of spec.l6Closed, and that the code does just that (printed by a program of my own). -/
namespace Go.Proofs.YtooikkfldddjfaaGreat
set_option maxRecDepth 10000
open Go.RowKit
set_option linter.unusedVariables false
set_option maxHeartbeats 16000000
def m_spec_l6Closed_b0 (l : List YTrip) (t : YTrip) (s0 : Int) : Option (Int ⊕ (Unit ⊕ Bool)) :=
 cond (decide (s0 < (l.length : Int)))
 ((getI l s0).bind fun y1 =>
 cond (decide (y1 = t))
 (some (.inr (.inr true)))
 (some (.inl (w64 (s0 + 1)))))
 (some (.inr (.inl ())))
instance (l : List YTrip) (t : YTrip) : LoopE (m_spec_l6Closed_b0 l t) := ⟨fun s0 => [.sl (l.map cTrip), .un, .un, .be 0 0 0, .un, vi s0, .un, .un, .un, .un, .un, .un, .un, .un, .un, .un, .un, .un], fun s0 => [some ⟨57, 2, [[vi t.leg, vi t.day]]⟩]⟩
def m_spec_l6Closed (l : List YTrip) (t : YTrip) : Option Bool :=
 (iterF (m_spec_l6Closed_b0 l t) NN 0).bind (selim (fun o0 =>
 some false) (fun r => some r))
theorem ok_spec_l6Closed (l : List YTrip) (t : YTrip) {r : Bool} (H : m_spec_l6Closed l t = some r) : CallM Tryz.prog 46 [.sl (l.map cTrip), .ag (cTrip t)] [] (vb r) [] := by
  replace H := H0 H
  unfold m_spec_l6Closed at H
  refine callM_of Tryz.func46 rfl Tryz.ntmps46 Tryz.results46 fun Q hQ hQn => ?_
  exact wk
instance (l : List YTrip) (t : YTrip) : CT Tryz.prog (m_spec_l6Closed l t) := ⟨46, [.sl (l.map cTrip), .ag (cTrip t)], [], fun r => vb r, fun r => [], ok_spec_l6Closed l t⟩
end Go.Proofs.YtooikkfldddjfaaGreat

/- The mirror of impl.LoadOf, and that the code does just that (printed by a program of my own). -/
namespace Go.Proofs.YtooikkfldddjfaaGreat
set_option maxRecDepth 10000
open Go.RowKit
set_option linter.unusedVariables false
set_option maxHeartbeats 16000000
def m_impl_LoadOf_b0 (l : List YBooking) (t : YTrip) (s0 : Int × Int) : Option ((Int × Int) ⊕ Int) :=
 cond (decide (s0.2 < (l.length : Int)))
 ((getI l s0.2).bind fun y1 =>
 cond (decide (y1.trip = t))
 (some (.inl ((w64 (s0.1 + y1.weight)), (w64 (s0.2 + 1)))))
 (some (.inl (s0.1, (w64 (s0.2 + 1))))))
 (some (.inr s0.1))
instance (l : List YBooking) (t : YTrip) : LoopE (m_impl_LoadOf_b0 l t) := ⟨fun s0 => [.un, .un, .un, .be 0 0 0, .un, vi s0.1, .un, .un, .sl (l.map cBooking), vi (l.length : Int), vi s0.2, .un, .un, .un, .un, .un, .un, .un, .un, .un, .un, .un, .un, .un], fun s0 => [some ⟨57, 2, [[vi t.leg, vi t.day]]⟩]⟩
def m_impl_LoadOf (l : List YBooking) (t : YTrip) : Option Int :=
 (iterF (m_impl_LoadOf_b0 l t) NN (0, 0)).bind (fun o0 =>
 some o0)
theorem ok_impl_LoadOf (l : List YBooking) (t : YTrip) {r : Int} (H : m_impl_LoadOf l t = some r) : CallM Tryz.prog 103 [.sl (l.map cBooking), .ag (cTrip t)] [] (vi r) [] := by
  replace H := H0 H
  unfold m_impl_LoadOf at H
  refine callM_of Tryz.func103 rfl Tryz.ntmps103 Tryz.results103 fun Q hQ hQn => ?_
  exact wk
instance (l : List YBooking) (t : YTrip) : CT Tryz.prog (m_impl_LoadOf l t) := ⟨103, [.sl (l.map cBooking), .ag (cTrip t)], [], fun r => vi r, fun r => [], ok_impl_LoadOf l t⟩
end Go.Proofs.YtooikkfldddjfaaGreat

/- The mirror of spec.LoadOf, and that the code does just that (printed by a program of my own). -/
namespace Go.Proofs.YtooikkfldddjfaaGreat
set_option maxRecDepth 10000
open Go.RowKit
set_option linter.unusedVariables false
set_option maxHeartbeats 16000000
def m_spec_LoadOf_b0 (l : List YBooking) (t : YTrip) (s0 : Int × Int) : Option ((Int × Int) ⊕ Int) :=
 cond (decide (s0.2 < (l.length : Int)))
 ((getI l s0.2).bind fun y1 =>
 cond (decide (y1.trip = t))
 ((getI l s0.2).bind fun y2 =>
 some (.inl ((w64 (s0.1 + y2.weight)), (w64 (s0.2 + 1)))))
 (some (.inl (s0.1, (w64 (s0.2 + 1))))))
 (some (.inr s0.1))
instance (l : List YBooking) (t : YTrip) : LoopE (m_spec_LoadOf_b0 l t) := ⟨fun s0 => [.sl (l.map cBooking), .un, .un, .be 0 0 0, .un, vi s0.1, vi s0.2, .un, .un, .un, .un, .un, .un, .un, .un, .un, .un, .un, .un, .un, .un, .un, .un, .un, .un, .un, .un, .un], fun s0 => [some ⟨57, 2, [[vi t.leg, vi t.day]]⟩]⟩
def m_spec_LoadOf (l : List YBooking) (t : YTrip) : Option Int :=
 (iterF (m_spec_LoadOf_b0 l t) NN (0, 0)).bind (fun o0 =>
 some o0)
theorem ok_spec_LoadOf (l : List YBooking) (t : YTrip) {r : Int} (H : m_spec_LoadOf l t = some r) : CallM Tryz.prog 89 [.sl (l.map cBooking), .ag (cTrip t)] [] (vi r) [] := by
  replace H := H0 H
  unfold m_spec_LoadOf at H
  refine callM_of Tryz.func89 rfl Tryz.ntmps89 Tryz.results89 fun Q hQ hQn => ?_
  exact wk
instance (l : List YBooking) (t : YTrip) : CT Tryz.prog (m_spec_LoadOf l t) := ⟨89, [.sl (l.map cBooking), .ag (cTrip t)], [], fun r => vi r, fun r => [], ok_spec_LoadOf l t⟩
end Go.Proofs.YtooikkfldddjfaaGreat

/- The two sides' functions on trips and loads answer alike. -/
namespace Go.Proofs.YtooikkfldddjfaaGreat
set_option maxRecDepth 10000
open Go.RowKit
set_option linter.unusedVariables false
set_option linter.unusedSimpArgs false
theorem l1Has_v {l : List Int} (h : l.length ≤ 1048576) (x : Int) : m_spec_l1Has l x = some (l.any fun y => decide (y = x)) := by
  unfold m_spec_l1Has
  rw [iter_find (xs := l) (p := fun y => decide (y = x)) (r := .inr true) (e := .inl ()) (fun i hi => ?_) (by simp [m_spec_l1Has_b0]) (by unfold NN; omega)]
  · cases l.any fun y => decide (y = x) <;> rfl
  · have hw := w64_nat hi (by omega)
    have hg : getI l (i : Int) = some l[i] := by rw [getI_nat]; exact List.getElem?_eq_getElem hi
    simp only [m_spec_l1Has_b0, decide_eq_true (show (i : Int) < l.length by omega), cond_true, hg, Option.bind_some, hw]
    cases decide (l[i] = x) <;> rfl
theorem hasTrip_v {l : List YTrip} (h : l.length ≤ 1048576) (x : YTrip) : m_impl_hasTrip l x = some (l.any fun y => decide (y = x)) := by
  unfold m_impl_hasTrip
  rw [iter_find (xs := l) (p := fun y => decide (y = x)) (r := .inr true) (e := .inl ()) (fun i hi => ?_) (by simp [m_impl_hasTrip_b0]) (by unfold NN; omega)]
  · cases l.any fun y => decide (y = x) <;> rfl
  · have hw := w64_nat hi (by omega)
    have hg : getI l (i : Int) = some l[i] := by rw [getI_nat]; exact List.getElem?_eq_getElem hi
    simp only [m_impl_hasTrip_b0, decide_eq_true (show (i : Int) < l.length by omega), cond_true, hg, Option.bind_some, hw]
    cases decide (l[i] = x) <;> rfl
theorem l6Closed_eq : @m_spec_l6Closed = @m_impl_hasTrip := rfl
theorem impl_off_v {n : YNetwork} (h : n.off.length ≤ 1048576) (x : Int) : (iterF (m_impl_runs_b0 n x) NN 0).bind (selim (fun _ => some true) (fun r => some r)) = some (!(n.off.any fun y => decide (y = x))) := by
  rw [iter_find (xs := n.off) (p := fun y => decide (y = x)) (r := .inr false) (e := .inl ()) (fun i hi => ?_) (by simp [m_impl_runs_b0]) (by unfold NN; omega)]
  · cases n.off.any fun y => decide (y = x) <;> rfl
  · have hw := w64_nat hi (by omega)
    have hg : getI n.off (i : Int) = some n.off[i] := by rw [getI_nat]; exact List.getElem?_eq_getElem hi
    simp only [m_impl_runs_b0, decide_eq_true (show (i : Int) < n.off.length by omega), cond_true, hg, Option.bind_some, hw]
    cases decide (n.off[i] = x) <;> rfl
/-- The lowest bit. -/
def lowBit (x : Int) : Int := IntKind.i64.wrap (BitVec.ofInt IntKind.i64.bits x &&& BitVec.ofInt IntKind.i64.bits 1).toNat
theorem lowBit_01 (x : Int) : lowBit x = 0 ∨ lowBit x = 1 := by
  unfold lowBit
  have h : (BitVec.ofInt IntKind.i64.bits x &&& BitVec.ofInt IntKind.i64.bits 1).toNat ≤ 1 := by
    rw [BitVec.toNat_and]
    refine Nat.le_trans Nat.and_le_right ?_
    decide
  rw [show IntKind.i64.wrap ((BitVec.ofInt IntKind.i64.bits x &&& BitVec.ofInt IntKind.i64.bits 1).toNat : Int) = ((BitVec.ofInt IntKind.i64.bits x &&& BitVec.ofInt IntKind.i64.bits 1).toNat : Int) from w64_in (by omega)]
  omega
theorem runs_eq {n : YNetwork} (h : NetFit n) (leg day : Int) : m_impl_runs n leg day = m_spec_l3Runs n leg day ∧ ∃ b, m_spec_l3Runs n leg day = some b := by
  have hl := h.legs
  have hw : w64 ((n.legs.length : Int) - 1) = n.legs.length - 1 := w64_in (by omega)
  unfold m_impl_runs m_spec_l3Runs
  rw [within_eq, hw, l1In_v, l1In_v]
  simp only [Option.bind_some]
  by_cases h1 : leg < 0
  · simp only [decide_eq_true h1, decide_eq_false (show ¬ 0 ≤ leg by omega), cond_true, Bool.false_and, cond_false]
    exact ⟨trivial, _, rfl⟩
  by_cases h2 : (n.legs.length : Int) ≤ leg
  · simp only [decide_eq_false h1, decide_eq_true h2, decide_eq_false (show ¬ leg ≤ (n.legs.length : Int) - 1 by omega), cond_true, Bool.and_false, cond_false]
    exact ⟨trivial, _, rfl⟩
  simp only [decide_eq_false h1, decide_eq_false h2, decide_eq_true (show 0 ≤ leg by omega), decide_eq_true (show leg ≤ (n.legs.length : Int) - 1 by omega), cond_true, Bool.and_true, cond_false]
  by_cases h3 : 0 ≤ day ∧ day ≤ 60
  · simp only [decide_eq_true h3.1, decide_eq_true h3.2, Bool.and_true, Bool.not_true, cond_false, cond_true]
    have hg : getI n.legs leg = some (n.legs[leg.toNat]'(by omega)) := by
      unfold getI; rw [if_pos (by omega)]; exact List.getElem?_eq_getElem _
    rw [hg]
    simp only [Option.bind_some]
    have hm : 0 ≤ Int.tmod day 7 := Int.tmod_nonneg 7 h3.1
    rw [chk_t (decide_eq_true hm)]
    simp only [Option.bind_some]
    rw [impl_off_v h.off, l1Has_v h.off]
    generalize Int.fdiv _ _ = q
    have hb := lowBit_01 q
    unfold lowBit at hb
    rcases hb with hb | hb
    · rw [hb]; exact ⟨rfl, _, rfl⟩
    · rw [hb]; exact ⟨rfl, _, rfl⟩
  · have : (decide (0 ≤ day) && decide (day ≤ 60)) = false := by rw [← Bool.decide_and]; exact decide_eq_false h3
    rw [this]
    exact ⟨rfl, _, rfl⟩
theorem runsOn_eq {n : YNetwork} (h : NetFit n) (leg day : Int) : m_impl_RunsOn n leg day = m_spec_RunsOn n leg day ∧ ∃ b, m_spec_RunsOn n leg day = some b := by
  obtain ⟨e, b, s⟩ := isNetwork_eq h
  obtain ⟨e2, b2, s2⟩ := runs_eq h leg day
  unfold m_impl_RunsOn m_spec_RunsOn
  rw [e, e2, s, s2]
  refine ⟨rfl, ?_⟩
  cases b <;> exact ⟨_, rfl⟩
theorem isTrip_eq {n : YNetwork} (h : NetFit n) (t : YTrip) : m_impl_IsTrip n t = m_spec_IsTrip n t ∧ ∃ b, m_spec_IsTrip n t = some b := by
  obtain ⟨e, b, s⟩ := runsOn_eq h t.leg t.day
  unfold m_impl_IsTrip m_spec_IsTrip
  rw [e, s]
  exact ⟨rfl, _, rfl⟩
theorem loadOf_eq : @m_impl_LoadOf = @m_spec_LoadOf := by
  funext l t
  unfold m_impl_LoadOf m_spec_LoadOf
  have : m_impl_LoadOf_b0 l t = m_spec_LoadOf_b0 l t := by
    funext s
    unfold m_impl_LoadOf_b0 m_spec_LoadOf_b0
    cases hg : getI l s.2 with
    | none => rfl
    | some y => simp only [Option.bind_some]
  rw [this]
end Go.Proofs.YtooikkfldddjfaaGreat

/- The mirror of impl.compareInts, and that the code does just that (printed by a program of my own). -/
namespace Go.Proofs.YtooikkfldddjfaaGreat
set_option maxRecDepth 10000
open Go.RowKit
set_option linter.unusedVariables false
set_option maxHeartbeats 16000000
def m_impl_compareInts (a : Int) (b : Int) : Option Int :=
 cond (decide (a < b))
 (some (-1))
 (cond (decide (b < a))
 (some 1)
 (some 0))
theorem ok_impl_compareInts (a : Int) (b : Int) {r : Int} (H : m_impl_compareInts a b = some r) : CallM Tryz.prog 129 [vi a, vi b] [] (vi r) [] := by
  replace H := H0 H
  unfold m_impl_compareInts at H
  refine callM_of Tryz.func129 rfl Tryz.ntmps129 Tryz.results129 fun Q hQ hQn => ?_
  exact wk
instance (a : Int) (b : Int) : CT Tryz.prog (m_impl_compareInts a b) := ⟨129, [vi a, vi b], [], fun r => vi r, fun r => [], ok_impl_compareInts a b⟩
end Go.Proofs.YtooikkfldddjfaaGreat

/- The mirror of impl.first, and that the code does just that (printed by a program of my own). -/
namespace Go.Proofs.YtooikkfldddjfaaGreat
set_option maxRecDepth 10000
open Go.RowKit
set_option linter.unusedVariables false
set_option maxHeartbeats 16000000
def m_impl_first_b0 (list : List Int) (s0 : Int) : Option (Int ⊕ (Unit ⊕ Int)) :=
 cond (decide (s0 < (list.length : Int)))
 ((getI list s0).bind fun y1 =>
 cond (!decide (y1 = 0))
 (some (.inr (.inr y1)))
 (some (.inl (w64 (s0 + 1)))))
 (some (.inr (.inl ())))
instance (list : List Int) : LoopE (m_impl_first_b0 list) := ⟨fun s0 => [.un, .un, .un, .un, .un, .sl (list.map cInt), vi (list.length : Int), vi s0, .un, .un, .un, .un, .un, .un, .un], fun s0 => []⟩
def m_impl_first (list : List Int) : Option Int :=
 (iterF (m_impl_first_b0 list) NN 0).bind (selim (fun o0 =>
 some 0) (fun r => some r))
theorem ok_impl_first (list : List Int) {r : Int} (H : m_impl_first list = some r) : CallM Tryz.prog 128 [.sl (list.map cInt)] [] (vi r) [] := by
  replace H := H0 H
  unfold m_impl_first at H
  refine callM_of Tryz.func128 rfl Tryz.ntmps128 Tryz.results128 fun Q hQ hQn => ?_
  exact wk
instance (list : List Int) : CT Tryz.prog (m_impl_first list) := ⟨128, [.sl (list.map cInt)], [], fun r => vi r, fun r => [], ok_impl_first list⟩
end Go.Proofs.YtooikkfldddjfaaGreat

/- The mirror of impl.compareBookings, and that the code does just that (printed by a program of my own). -/
namespace Go.Proofs.YtooikkfldddjfaaGreat
set_option maxRecDepth 10000
open Go.RowKit
set_option linter.unusedVariables false
set_option maxHeartbeats 16000000
def m_impl_compareBookings (a : YBooking) (b : YBooking) : Option Int :=
 (m_impl_compareInts a.trip.day b.trip.day).bind fun y1 =>
 (m_impl_compareInts a.trip.leg b.trip.leg).bind fun y2 =>
 (m_impl_compareInts a.thing b.thing).bind fun y3 =>
 (m_impl_first ([y1, y2, y3])).bind fun y4 =>
 some y4
theorem ok_impl_compareBookings (a : YBooking) (b : YBooking) {r : Int} (H : m_impl_compareBookings a b = some r) : CallM Tryz.prog 102 [.ag (cBooking a), .ag (cBooking b)] [] (vi r) [] := by
  replace H := H0 H
  unfold m_impl_compareBookings at H
  refine callM_of Tryz.func102 rfl Tryz.ntmps102 Tryz.results102 fun Q hQ hQn => ?_
  exact wk
instance (a : YBooking) (b : YBooking) : CT Tryz.prog (m_impl_compareBookings a b) := ⟨102, [.ag (cBooking a), .ag (cBooking b)], [], fun r => vi r, fun r => [], ok_impl_compareBookings a b⟩
end Go.Proofs.YtooikkfldddjfaaGreat

/- The mirror of impl.AreBookings, and that the code does just that (printed by a program of my own). -/
namespace Go.Proofs.YtooikkfldddjfaaGreat
set_option maxRecDepth 10000
open Go.RowKit
set_option linter.unusedVariables false
set_option maxHeartbeats 16000000
def m_impl_AreBookings_b0 (n : YNetwork) (l : List YBooking) (s0 : Int) : Option (Int ⊕ (Unit ⊕ Bool)) :=
 cond (decide (s0 < (l.length : Int)))
 ((getI l s0).bind fun y2 =>
 cond (decide (0 < s0))
 ((getI l (w64 (s0 - 1))).bind fun y3 =>
 (m_impl_compareBookings y3 y2).bind fun y4 =>
 cond (decide (0 ≤ y4))
 (some (.inr (.inr false)))
 ((m_impl_IsTrip n y2.trip).bind fun y5 =>
 cond (!y5)
 (some (.inr (.inr false)))
 ((m_impl_within y2.thing 1 9999).bind fun y6 =>
 cond (!y6)
 (some (.inr (.inr false)))
 ((m_impl_within y2.weight 1 1000000).bind fun y7 =>
 cond (!y7)
 (some (.inr (.inr false)))
 ((m_impl_LoadOf l y2.trip).bind fun y8 =>
 (getI n.legs y2.trip.leg).bind fun y9 =>
 cond (decide (y9.room < y8))
 (some (.inr (.inr false)))
 (some (.inl (w64 (s0 + 1)))))))))
 ((m_impl_IsTrip n y2.trip).bind fun y10 =>
 cond (!y10)
 (some (.inr (.inr false)))
 ((m_impl_within y2.thing 1 9999).bind fun y11 =>
 cond (!y11)
 (some (.inr (.inr false)))
 ((m_impl_within y2.weight 1 1000000).bind fun y12 =>
 cond (!y12)
 (some (.inr (.inr false)))
 ((m_impl_LoadOf l y2.trip).bind fun y13 =>
 (getI n.legs y2.trip.leg).bind fun y14 =>
 cond (decide (y14.room < y13))
 (some (.inr (.inr false)))
 (some (.inl (w64 (s0 + 1)))))))))
 (some (.inr (.inl ())))
instance (n : YNetwork) (l : List YBooking) : LoopE (m_impl_AreBookings_b0 n l) := ⟨fun s0 => [.un, .sl (l.map cBooking), .be 0 0 0, .un, .un, .un, .un, .un, .un, .un, .un, .un, .un, .un, .un, .sl (l.map cBooking), vi (l.length : Int), vi s0, .un, .un, .un, .un, .un, .un, .un, .un, .un, .un, .un, .un, .un, .un, .un, .un, .un, .un, .un, .un, .un, .un, .un, .un, .un, .un, .un, .un, .un, .un, .un, .un, .un, .un, .un, .un, .un, .un, .un, .un, .un, .un, .un, .un, .un, .un, .un, .un, .un, .un, .un], fun s0 => [some ⟨36, 3, [[.sl (n.legs.map cLeg), .sl (n.off.map cInt), vi n.change]]⟩]⟩
def m_impl_AreBookings (n : YNetwork) (l : List YBooking) : Option Bool :=
 (m_impl_IsNetwork n).bind fun y1 =>
 cond (!y1)
 (some false)
 (cond (decide (120 < (l.length : Int)))
 (some false)
 ((iterF (m_impl_AreBookings_b0 n l) NN 0).bind (selim (fun o0 =>
 some true) (fun r => some r))))
theorem ok_impl_AreBookings (n : YNetwork) (l : List YBooking) {r : Bool} (H : m_impl_AreBookings n l = some r) : CallM Tryz.prog 53 [.ag (cNetwork n), .sl (l.map cBooking)] [] (vb r) [] := by
  replace H := H0 H
  unfold m_impl_AreBookings at H
  refine callM_of Tryz.func53 rfl Tryz.ntmps53 Tryz.results53 fun Q hQ hQn => ?_
  exact wk
instance (n : YNetwork) (l : List YBooking) : CT Tryz.prog (m_impl_AreBookings n l) := ⟨53, [.ag (cNetwork n), .sl (l.map cBooking)], [], fun r => vb r, fun r => [], ok_impl_AreBookings n l⟩
end Go.Proofs.YtooikkfldddjfaaGreat

/- The mirror of spec.l6Before, and that the code does just that (printed by a program of my own). -/
namespace Go.Proofs.YtooikkfldddjfaaGreat
set_option maxRecDepth 10000
open Go.RowKit
set_option linter.unusedVariables false
set_option maxHeartbeats 16000000
def m_spec_l6Before (a : YBooking) (b : YBooking) : Option Bool :=
 cond (!decide (a.trip.day = b.trip.day))
 (some (decide (a.trip.day < b.trip.day)))
 (cond (!decide (a.trip.leg = b.trip.leg))
 (some (decide (a.trip.leg < b.trip.leg)))
 (some (decide (a.thing < b.thing))))
theorem ok_spec_l6Before (a : YBooking) (b : YBooking) {r : Bool} (H : m_spec_l6Before a b = some r) : CallM Tryz.prog 88 [.ag (cBooking a), .ag (cBooking b)] [] (vb r) [] := by
  replace H := H0 H
  unfold m_spec_l6Before at H
  refine callM_of Tryz.func88 rfl Tryz.ntmps88 Tryz.results88 fun Q hQ hQn => ?_
  exact wk
instance (a : YBooking) (b : YBooking) : CT Tryz.prog (m_spec_l6Before a b) := ⟨88, [.ag (cBooking a), .ag (cBooking b)], [], fun r => vb r, fun r => [], ok_spec_l6Before a b⟩
end Go.Proofs.YtooikkfldddjfaaGreat

/- The mirror of spec.AreBookings, and that the code does just that (printed by a program of my own). -/
namespace Go.Proofs.YtooikkfldddjfaaGreat
set_option maxRecDepth 10000
open Go.RowKit
set_option linter.unusedVariables false
set_option maxHeartbeats 16000000
def m_spec_AreBookings_b0 (n : YNetwork) (l : List YBooking) (s0 : Int) : Option (Int ⊕ (Unit ⊕ Bool)) :=
 cond (decide (s0 < (l.length : Int)))
 ((getI l s0).bind fun y2 =>
 (m_spec_l3Runs n y2.trip.leg y2.trip.day).bind fun y3 =>
 cond (!y3)
 (some (.inr (.inr false)))
 ((m_spec_l1In y2.thing 1 9999).bind fun y4 =>
 cond (!y4)
 (some (.inr (.inr false)))
 ((m_spec_l1In y2.weight 1 1000000).bind fun y5 =>
 cond (!y5)
 (some (.inr (.inr false)))
 (cond (decide (0 < s0))
 ((getI l (w64 (s0 - 1))).bind fun y6 =>
 (m_spec_l6Before y6 y2).bind fun y7 =>
 cond (!y7)
 (some (.inr (.inr false)))
 (some (.inl (w64 (s0 + 1)))))
 (some (.inl (w64 (s0 + 1))))))))
 (some (.inr (.inl ())))
instance (n : YNetwork) (l : List YBooking) : LoopE (m_spec_AreBookings_b0 n l) := ⟨fun s0 => [.un, .sl (l.map cBooking), .be 0 0 0, .un, .un, vi s0, .un, .un, .un, .un, .un, .un, .un, .un, .un, .un, .un, .un, .un, .un, .un, .un, .un, .un, .un, .un, .un, .un, .un, .un, .un, .un, .un, .un, .un, .un, .un, .un, .un, .un, .un, .un, .un, .un, .un, .un, .un, .un, .un, .un, .un, .un, .un, .un, .un, .un, .un, .un, .un, .un, .un, .un, .un, .un, .un, .un, .un, .un, .un, .un, .un, .un, .un, .un, .un, .un, .un, .un, .un, .un, .un, .un, .un, .un, .un, .un], fun s0 => [some ⟨36, 3, [[.sl (n.legs.map cLeg), .sl (n.off.map cInt), vi n.change]]⟩]⟩
def m_spec_AreBookings_b1 (n : YNetwork) (l : List YBooking) (s1 : Int) : Option (Int ⊕ (Unit ⊕ Bool)) :=
 cond (decide (s1 < (l.length : Int)))
 ((getI l s1).bind fun y8 =>
 (m_spec_LoadOf l y8.trip).bind fun y9 =>
 (getI l s1).bind fun y10 =>
 (getI n.legs y10.trip.leg).bind fun y11 =>
 cond (decide (y11.room < y9))
 (some (.inr (.inr false)))
 (some (.inl (w64 (s1 + 1)))))
 (some (.inr (.inl ())))
instance (n : YNetwork) (l : List YBooking) : LoopE (m_spec_AreBookings_b1 n l) := ⟨fun s1 => [.un, .sl (l.map cBooking), .be 0 0 0, .un, .un, .un, .un, vi s1, .un, .un, .un, .un, .un, .un, .un, .un, .un, .un, .un, .un, .un, .un, .un, .un, .un, .un, .un, .un, .un, .un, .un, .un, .un, .un, .un, .un, .un, .un, .un, .un, .un, .un, .un, .un, .un, .un, .un, .un, .un, .un, .un, .un, .un, .un, .un, .un, .un, .un, .un, .un, .un, .un, .un, .un, .un, .un, .un, .un, .un, .un, .un, .un, .un, .un, .un, .un, .un, .un, .un, .un, .un, .un, .un, .un, .un, .un], fun s1 => [some ⟨36, 3, [[.sl (n.legs.map cLeg), .sl (n.off.map cInt), vi n.change]]⟩]⟩
def m_spec_AreBookings (n : YNetwork) (l : List YBooking) : Option Bool :=
 (m_spec_IsNetwork n).bind fun y1 =>
 cond (!y1)
 (some false)
 (cond (decide (120 < (l.length : Int)))
 (some false)
 ((iterF (m_spec_AreBookings_b0 n l) NN 0).bind (selim (fun o0 =>
 (iterF (m_spec_AreBookings_b1 n l) NN 0).bind (selim (fun o1 =>
 some true) (fun r => some r))) (fun r => some r))))
theorem ok_spec_AreBookings (n : YNetwork) (l : List YBooking) {r : Bool} (H : m_spec_AreBookings n l = some r) : CallM Tryz.prog 43 [.ag (cNetwork n), .sl (l.map cBooking)] [] (vb r) [] := by
  replace H := H0 H
  unfold m_spec_AreBookings at H
  refine callM_of Tryz.func43 rfl Tryz.ntmps43 Tryz.results43 fun Q hQ hQn => ?_
  exact wk
instance (n : YNetwork) (l : List YBooking) : CT Tryz.prog (m_spec_AreBookings n l) := ⟨43, [.ag (cNetwork n), .sl (l.map cBooking)], [], fun r => vb r, fun r => [], ok_spec_AreBookings n l⟩
end Go.Proofs.YtooikkfldddjfaaGreat
