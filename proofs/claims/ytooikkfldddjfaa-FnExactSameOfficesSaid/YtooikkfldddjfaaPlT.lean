/- Facts on the types and functions of this seat, as the plain walk uses them (written by a program of my own). -/
import Derived.Test.YtooikkfldddjfaaProg
import Derived.Test.YtooikkfldddjfaaPlD
namespace Go.Proofs.Ytooikkfldddjfaa
open Go.RowKit
set_option maxRecDepth 10000
attribute [go_sem] Try.underlying2
@[go_sem] theorem tc2 : Try.prog.cellsOf 2 = 1 := by kernel_rfl
@[go_sem] theorem tb2 : Try.prog.bytesOf 2 = 8 := by kernel_rfl
@[go_sem] theorem tz2 : pz Try.prog 2 = some [.v (.int .i64 0)] := by kernel_rfl
attribute [go_sem] Try.underlying3
@[go_sem] theorem tc3 : Try.prog.cellsOf 3 = 1 := by kernel_rfl
@[go_sem] theorem tb3 : Try.prog.bytesOf 3 = 8 := by kernel_rfl
@[go_sem] theorem tz3 : pz Try.prog 3 = some [.v (.int .i64 0)] := by kernel_rfl
attribute [go_sem] Try.underlying4
@[go_sem] theorem tc4 : Try.prog.cellsOf 4 = 1 := by kernel_rfl
@[go_sem] theorem tb4 : Try.prog.bytesOf 4 = 1 := by kernel_rfl
@[go_sem] theorem tz4 : pz Try.prog 4 = some [.v (.bool false)] := by kernel_rfl
attribute [go_sem] Try.underlying5
@[go_sem] theorem tc5 : Try.prog.cellsOf 5 = 1 := by kernel_rfl
@[go_sem] theorem tb5 : Try.prog.bytesOf 5 = 1 := by kernel_rfl
@[go_sem] theorem tz5 : pz Try.prog 5 = some [.v (.int .u8 0)] := by kernel_rfl
attribute [go_sem] Try.underlying9
@[go_sem] theorem tc9 : Try.prog.cellsOf 9 = 1 := by kernel_rfl
@[go_sem] theorem tb9 : Try.prog.bytesOf 9 = 16 := by kernel_rfl
@[go_sem] theorem tz9 : pz Try.prog 9 = some [.v (.string ⟨#[]⟩)] := by kernel_rfl
attribute [go_sem] Try.underlying12
@[go_sem] theorem tc12 : Try.prog.cellsOf 12 = 1 := by kernel_rfl
@[go_sem] theorem tb12 : Try.prog.bytesOf 12 = 8 := by kernel_rfl
@[go_sem] theorem tz12 : pz Try.prog 12 = some [.v (.int .u64 0)] := by kernel_rfl
attribute [go_sem] Try.underlying21
@[go_sem] theorem tc21 : Try.prog.cellsOf 21 = 1 := by kernel_rfl
@[go_sem] theorem tb21 : Try.prog.bytesOf 21 = 4 := by kernel_rfl
@[go_sem] theorem tz21 : pz Try.prog 21 = some [.v (.int .i32 0)] := by kernel_rfl
attribute [go_sem] Try.underlying22
@[go_sem] theorem tc22 : Try.prog.cellsOf 22 = 1 := by kernel_rfl
@[go_sem] theorem tb22 : Try.prog.bytesOf 22 = 24 := by kernel_rfl
@[go_sem] theorem tz22 : pz Try.prog 22 = some [.v (.slice none 0 0)] := by kernel_rfl
@[go_sem] theorem tk22 : elemK Try.prog 22 = 6 := by kernel_rfl
attribute [go_sem] Try.underlying23
@[go_sem] theorem tc23 : Try.prog.cellsOf 23 = 1 := by kernel_rfl
@[go_sem] theorem tb23 : Try.prog.bytesOf 23 = 24 := by kernel_rfl
@[go_sem] theorem tz23 : pz Try.prog 23 = some [.v (.slice none 0 0)] := by kernel_rfl
@[go_sem] theorem tk23 : elemK Try.prog 23 = 1 := by kernel_rfl
attribute [go_sem] Try.underlying24
@[go_sem] theorem tc24 : Try.prog.cellsOf 24 = 3 := by kernel_rfl
@[go_sem] theorem tb24 : Try.prog.bytesOf 24 = 56 := by kernel_rfl
@[go_sem] theorem tz24 : pz Try.prog 24 = some [.v (.slice none 0 0), .v (.slice none 0 0), .v (.int .i64 0)] := by kernel_rfl
@[go_sem] theorem te24 : Try.prog.eqGuardType Try.prog.depth 24 = false := by kernel_rfl
@[go_sem] theorem ts24 : Try.prog.stoodInHeld 24 = false := by kernel_rfl
attribute [go_sem] Try.underlying25
@[go_sem] theorem tc25 : Try.prog.cellsOf 25 = 3 := by kernel_rfl
@[go_sem] theorem tb25 : Try.prog.bytesOf 25 = 56 := by kernel_rfl
@[go_sem] theorem tz25 : pz Try.prog 25 = some [.v (.slice none 0 0), .v (.slice none 0 0), .v (.int .i64 0)] := by kernel_rfl
@[go_sem] theorem te25 : Try.prog.eqGuardType Try.prog.depth 25 = false := by kernel_rfl
@[go_sem] theorem ts25 : Try.prog.stoodInHeld 25 = false := by kernel_rfl
attribute [go_sem] Try.underlying26
@[go_sem] theorem tc26 : Try.prog.cellsOf 26 = 1 := by kernel_rfl
@[go_sem] theorem tb26 : Try.prog.bytesOf 26 = 24 := by kernel_rfl
@[go_sem] theorem tz26 : pz Try.prog 26 = some [.v (.slice none 0 0)] := by kernel_rfl
@[go_sem] theorem tk26 : elemK Try.prog 26 = 11 := by kernel_rfl
attribute [go_sem] Try.underlying27
@[go_sem] theorem tc27 : Try.prog.cellsOf 27 = 1 := by kernel_rfl
@[go_sem] theorem tb27 : Try.prog.bytesOf 27 = 24 := by kernel_rfl
@[go_sem] theorem tz27 : pz Try.prog 27 = some [.v (.slice none 0 0)] := by kernel_rfl
@[go_sem] theorem tk27 : elemK Try.prog 27 = 4 := by kernel_rfl
attribute [go_sem] Try.underlying28
@[go_sem] theorem tc28 : Try.prog.cellsOf 28 = 1 := by kernel_rfl
@[go_sem] theorem tb28 : Try.prog.bytesOf 28 = 24 := by kernel_rfl
@[go_sem] theorem tz28 : pz Try.prog 28 = some [.v (.slice none 0 0)] := by kernel_rfl
@[go_sem] theorem tk28 : elemK Try.prog 28 = 2 := by kernel_rfl
attribute [go_sem] Try.underlying29
@[go_sem] theorem tc29 : Try.prog.cellsOf 29 = 1 := by kernel_rfl
@[go_sem] theorem tb29 : Try.prog.bytesOf 29 = 24 := by kernel_rfl
@[go_sem] theorem tz29 : pz Try.prog 29 = some [.v (.slice none 0 0)] := by kernel_rfl
@[go_sem] theorem tk29 : elemK Try.prog 29 = 6 := by kernel_rfl
attribute [go_sem] Try.underlying30
@[go_sem] theorem tc30 : Try.prog.cellsOf 30 = 10 := by kernel_rfl
@[go_sem] theorem tb30 : Try.prog.bytesOf 30 = 192 := by kernel_rfl
@[go_sem] theorem tz30 : pz Try.prog 30 = some [.v (.slice none 0 0), .v (.slice none 0 0), .v (.int .i64 0), .v (.slice none 0 0), .v (.slice none 0 0), .v (.slice none 0 0), .v (.int .i64 0), .v (.slice none 0 0), .v (.slice none 0 0), .v (.int .i64 0)] := by kernel_rfl
@[go_sem] theorem te30 : Try.prog.eqGuardType Try.prog.depth 30 = false := by kernel_rfl
@[go_sem] theorem ts30 : Try.prog.stoodInHeld 30 = false := by kernel_rfl
attribute [go_sem] Try.underlying31
@[go_sem] theorem tc31 : Try.prog.cellsOf 31 = 10 := by kernel_rfl
@[go_sem] theorem tb31 : Try.prog.bytesOf 31 = 192 := by kernel_rfl
@[go_sem] theorem tz31 : pz Try.prog 31 = some [.v (.slice none 0 0), .v (.slice none 0 0), .v (.int .i64 0), .v (.slice none 0 0), .v (.slice none 0 0), .v (.slice none 0 0), .v (.int .i64 0), .v (.slice none 0 0), .v (.slice none 0 0), .v (.int .i64 0)] := by kernel_rfl
@[go_sem] theorem te31 : Try.prog.eqGuardType Try.prog.depth 31 = false := by kernel_rfl
@[go_sem] theorem ts31 : Try.prog.stoodInHeld 31 = false := by kernel_rfl
attribute [go_sem] Try.underlying34
@[go_sem] theorem tc34 : Try.prog.cellsOf 34 = 1 := by kernel_rfl
@[go_sem] theorem tb34 : Try.prog.bytesOf 34 = 24 := by kernel_rfl
@[go_sem] theorem tz34 : pz Try.prog 34 = some [.v (.slice none 0 0)] := by kernel_rfl
@[go_sem] theorem tk34 : elemK Try.prog 34 = 6 := by kernel_rfl
attribute [go_sem] Try.underlying35
@[go_sem] theorem tc35 : Try.prog.cellsOf 35 = 3 := by kernel_rfl
@[go_sem] theorem tb35 : Try.prog.bytesOf 35 = 56 := by kernel_rfl
@[go_sem] theorem tz35 : pz Try.prog 35 = some [.v (.slice none 0 0), .v (.slice none 0 0), .v (.int .i64 0)] := by kernel_rfl
@[go_sem] theorem te35 : Try.prog.eqGuardType Try.prog.depth 35 = false := by kernel_rfl
@[go_sem] theorem ts35 : Try.prog.stoodInHeld 35 = false := by kernel_rfl
attribute [go_sem] Try.underlying36
@[go_sem] theorem tc36 : Try.prog.cellsOf 36 = 3 := by kernel_rfl
@[go_sem] theorem tb36 : Try.prog.bytesOf 36 = 56 := by kernel_rfl
@[go_sem] theorem tz36 : pz Try.prog 36 = some [.v (.slice none 0 0), .v (.slice none 0 0), .v (.int .i64 0)] := by kernel_rfl
@[go_sem] theorem te36 : Try.prog.eqGuardType Try.prog.depth 36 = false := by kernel_rfl
@[go_sem] theorem ts36 : Try.prog.stoodInHeld 36 = false := by kernel_rfl
attribute [go_sem] Try.underlying37
@[go_sem] theorem tc37 : Try.prog.cellsOf 37 = 1 := by kernel_rfl
@[go_sem] theorem tb37 : Try.prog.bytesOf 37 = 24 := by kernel_rfl
@[go_sem] theorem tz37 : pz Try.prog 37 = some [.v (.slice none 0 0)] := by kernel_rfl
@[go_sem] theorem tk37 : elemK Try.prog 37 = 11 := by kernel_rfl
attribute [go_sem] Try.underlying38
@[go_sem] theorem tc38 : Try.prog.cellsOf 38 = 1 := by kernel_rfl
@[go_sem] theorem tb38 : Try.prog.bytesOf 38 = 24 := by kernel_rfl
@[go_sem] theorem tz38 : pz Try.prog 38 = some [.v (.slice none 0 0)] := by kernel_rfl
@[go_sem] theorem tk38 : elemK Try.prog 38 = 4 := by kernel_rfl
attribute [go_sem] Try.underlying39
@[go_sem] theorem tc39 : Try.prog.cellsOf 39 = 1 := by kernel_rfl
@[go_sem] theorem tb39 : Try.prog.bytesOf 39 = 24 := by kernel_rfl
@[go_sem] theorem tz39 : pz Try.prog 39 = some [.v (.slice none 0 0)] := by kernel_rfl
@[go_sem] theorem tk39 : elemK Try.prog 39 = 2 := by kernel_rfl
attribute [go_sem] Try.underlying40
@[go_sem] theorem tc40 : Try.prog.cellsOf 40 = 1 := by kernel_rfl
@[go_sem] theorem tb40 : Try.prog.bytesOf 40 = 24 := by kernel_rfl
@[go_sem] theorem tz40 : pz Try.prog 40 = some [.v (.slice none 0 0)] := by kernel_rfl
@[go_sem] theorem tk40 : elemK Try.prog 40 = 6 := by kernel_rfl
attribute [go_sem] Try.underlying41
@[go_sem] theorem tc41 : Try.prog.cellsOf 41 = 10 := by kernel_rfl
@[go_sem] theorem tb41 : Try.prog.bytesOf 41 = 192 := by kernel_rfl
@[go_sem] theorem tz41 : pz Try.prog 41 = some [.v (.slice none 0 0), .v (.slice none 0 0), .v (.int .i64 0), .v (.slice none 0 0), .v (.slice none 0 0), .v (.slice none 0 0), .v (.int .i64 0), .v (.slice none 0 0), .v (.slice none 0 0), .v (.int .i64 0)] := by kernel_rfl
@[go_sem] theorem te41 : Try.prog.eqGuardType Try.prog.depth 41 = false := by kernel_rfl
@[go_sem] theorem ts41 : Try.prog.stoodInHeld 41 = false := by kernel_rfl
attribute [go_sem] Try.underlying42
@[go_sem] theorem tc42 : Try.prog.cellsOf 42 = 10 := by kernel_rfl
@[go_sem] theorem tb42 : Try.prog.bytesOf 42 = 192 := by kernel_rfl
@[go_sem] theorem tz42 : pz Try.prog 42 = some [.v (.slice none 0 0), .v (.slice none 0 0), .v (.int .i64 0), .v (.slice none 0 0), .v (.slice none 0 0), .v (.slice none 0 0), .v (.int .i64 0), .v (.slice none 0 0), .v (.slice none 0 0), .v (.int .i64 0)] := by kernel_rfl
@[go_sem] theorem te42 : Try.prog.eqGuardType Try.prog.depth 42 = false := by kernel_rfl
@[go_sem] theorem ts42 : Try.prog.stoodInHeld 42 = false := by kernel_rfl
attribute [go_sem] Try.underlying45
@[go_sem] theorem tc45 : Try.prog.cellsOf 45 = 3 := by kernel_rfl
@[go_sem] theorem tb45 : Try.prog.bytesOf 45 = 32 := by kernel_rfl
@[go_sem] theorem tz45 : pz Try.prog 45 = some [.v (.int .i64 0), .v (.int .i64 0), .v (.string ⟨#[]⟩)] := by kernel_rfl
@[go_sem] theorem te45 : Try.prog.eqGuardType Try.prog.depth 45 = false := by kernel_rfl
@[go_sem] theorem ts45 : Try.prog.stoodInHeld 45 = false := by kernel_rfl
attribute [go_sem] Try.underlying46
@[go_sem] theorem tc46 : Try.prog.cellsOf 46 = 3 := by kernel_rfl
@[go_sem] theorem tb46 : Try.prog.bytesOf 46 = 32 := by kernel_rfl
@[go_sem] theorem tz46 : pz Try.prog 46 = some [.v (.int .i64 0), .v (.int .i64 0), .v (.string ⟨#[]⟩)] := by kernel_rfl
@[go_sem] theorem te46 : Try.prog.eqGuardType Try.prog.depth 46 = false := by kernel_rfl
@[go_sem] theorem ts46 : Try.prog.stoodInHeld 46 = false := by kernel_rfl
attribute [go_sem] Try.underlying47
@[go_sem] theorem tc47 : Try.prog.cellsOf 47 = 7 := by kernel_rfl
@[go_sem] theorem tb47 : Try.prog.bytesOf 47 = 88 := by kernel_rfl
@[go_sem] theorem tz47 : pz Try.prog 47 = some [.v (.int .i64 0), .v (.int .i64 0), .v (.string ⟨#[]⟩), .v (.string ⟨#[]⟩), .v (.int .i64 0), .v (.slice none 0 0), .v (.int .i64 0)] := by kernel_rfl
@[go_sem] theorem te47 : Try.prog.eqGuardType Try.prog.depth 47 = false := by kernel_rfl
@[go_sem] theorem ts47 : Try.prog.stoodInHeld 47 = false := by kernel_rfl
attribute [go_sem] Try.underlying48
@[go_sem] theorem tc48 : Try.prog.cellsOf 48 = 7 := by kernel_rfl
@[go_sem] theorem tb48 : Try.prog.bytesOf 48 = 88 := by kernel_rfl
@[go_sem] theorem tz48 : pz Try.prog 48 = some [.v (.int .i64 0), .v (.int .i64 0), .v (.string ⟨#[]⟩), .v (.string ⟨#[]⟩), .v (.int .i64 0), .v (.slice none 0 0), .v (.int .i64 0)] := by kernel_rfl
@[go_sem] theorem te48 : Try.prog.eqGuardType Try.prog.depth 48 = false := by kernel_rfl
@[go_sem] theorem ts48 : Try.prog.stoodInHeld 48 = false := by kernel_rfl
attribute [go_sem] Try.underlying49
@[go_sem] theorem tc49 : Try.prog.cellsOf 49 = 2 := by kernel_rfl
@[go_sem] theorem tb49 : Try.prog.bytesOf 49 = 16 := by kernel_rfl
@[go_sem] theorem tz49 : pz Try.prog 49 = some [.v (.int .i64 0), .v (.int .i64 0)] := by kernel_rfl
@[go_sem] theorem te49 : Try.prog.eqGuardType Try.prog.depth 49 = false := by kernel_rfl
@[go_sem] theorem ts49 : Try.prog.stoodInHeld 49 = false := by kernel_rfl
attribute [go_sem] Try.underlying50
@[go_sem] theorem tc50 : Try.prog.cellsOf 50 = 2 := by kernel_rfl
@[go_sem] theorem tb50 : Try.prog.bytesOf 50 = 16 := by kernel_rfl
@[go_sem] theorem tz50 : pz Try.prog 50 = some [.v (.int .i64 0), .v (.int .i64 0)] := by kernel_rfl
@[go_sem] theorem te50 : Try.prog.eqGuardType Try.prog.depth 50 = false := by kernel_rfl
@[go_sem] theorem ts50 : Try.prog.stoodInHeld 50 = false := by kernel_rfl
attribute [go_sem] Try.underlying51
@[go_sem] theorem tc51 : Try.prog.cellsOf 51 = 13 := by kernel_rfl
@[go_sem] theorem tb51 : Try.prog.bytesOf 51 = 136 := by kernel_rfl
@[go_sem] theorem tz51 : pz Try.prog 51 = some [.v (.int .i64 0), .v (.int .i64 0), .v (.int .i64 0), .v (.string ⟨#[]⟩), .v (.string ⟨#[]⟩), .v (.int .i64 0), .v (.slice none 0 0), .v (.int .i64 0), .v (.int .i64 0), .v (.int .i64 0), .v (.int .i64 0), .v (.int .i64 0), .v (.int .i64 0)] := by kernel_rfl
@[go_sem] theorem te51 : Try.prog.eqGuardType Try.prog.depth 51 = false := by kernel_rfl
@[go_sem] theorem ts51 : Try.prog.stoodInHeld 51 = false := by kernel_rfl
attribute [go_sem] Try.underlying52
@[go_sem] theorem tc52 : Try.prog.cellsOf 52 = 13 := by kernel_rfl
@[go_sem] theorem tb52 : Try.prog.bytesOf 52 = 136 := by kernel_rfl
@[go_sem] theorem tz52 : pz Try.prog 52 = some [.v (.int .i64 0), .v (.int .i64 0), .v (.int .i64 0), .v (.string ⟨#[]⟩), .v (.string ⟨#[]⟩), .v (.int .i64 0), .v (.slice none 0 0), .v (.int .i64 0), .v (.int .i64 0), .v (.int .i64 0), .v (.int .i64 0), .v (.int .i64 0), .v (.int .i64 0)] := by kernel_rfl
@[go_sem] theorem te52 : Try.prog.eqGuardType Try.prog.depth 52 = false := by kernel_rfl
@[go_sem] theorem ts52 : Try.prog.stoodInHeld 52 = false := by kernel_rfl
attribute [go_sem] Try.underlying55
@[go_sem] theorem tc55 : Try.prog.cellsOf 55 = 3 := by kernel_rfl
@[go_sem] theorem tb55 : Try.prog.bytesOf 55 = 32 := by kernel_rfl
@[go_sem] theorem tz55 : pz Try.prog 55 = some [.v (.int .i64 0), .v (.int .i64 0), .v (.string ⟨#[]⟩)] := by kernel_rfl
@[go_sem] theorem te55 : Try.prog.eqGuardType Try.prog.depth 55 = false := by kernel_rfl
@[go_sem] theorem ts55 : Try.prog.stoodInHeld 55 = false := by kernel_rfl
attribute [go_sem] Try.underlying56
@[go_sem] theorem tc56 : Try.prog.cellsOf 56 = 7 := by kernel_rfl
@[go_sem] theorem tb56 : Try.prog.bytesOf 56 = 88 := by kernel_rfl
@[go_sem] theorem tz56 : pz Try.prog 56 = some [.v (.int .i64 0), .v (.int .i64 0), .v (.string ⟨#[]⟩), .v (.string ⟨#[]⟩), .v (.int .i64 0), .v (.slice none 0 0), .v (.int .i64 0)] := by kernel_rfl
@[go_sem] theorem te56 : Try.prog.eqGuardType Try.prog.depth 56 = false := by kernel_rfl
@[go_sem] theorem ts56 : Try.prog.stoodInHeld 56 = false := by kernel_rfl
attribute [go_sem] Try.underlying57
@[go_sem] theorem tc57 : Try.prog.cellsOf 57 = 7 := by kernel_rfl
@[go_sem] theorem tb57 : Try.prog.bytesOf 57 = 88 := by kernel_rfl
@[go_sem] theorem tz57 : pz Try.prog 57 = some [.v (.int .i64 0), .v (.int .i64 0), .v (.string ⟨#[]⟩), .v (.string ⟨#[]⟩), .v (.int .i64 0), .v (.slice none 0 0), .v (.int .i64 0)] := by kernel_rfl
@[go_sem] theorem te57 : Try.prog.eqGuardType Try.prog.depth 57 = false := by kernel_rfl
@[go_sem] theorem ts57 : Try.prog.stoodInHeld 57 = false := by kernel_rfl
attribute [go_sem] Try.underlying58
@[go_sem] theorem tc58 : Try.prog.cellsOf 58 = 2 := by kernel_rfl
@[go_sem] theorem tb58 : Try.prog.bytesOf 58 = 16 := by kernel_rfl
@[go_sem] theorem tz58 : pz Try.prog 58 = some [.v (.int .i64 0), .v (.int .i64 0)] := by kernel_rfl
@[go_sem] theorem te58 : Try.prog.eqGuardType Try.prog.depth 58 = false := by kernel_rfl
@[go_sem] theorem ts58 : Try.prog.stoodInHeld 58 = false := by kernel_rfl
attribute [go_sem] Try.underlying59
@[go_sem] theorem tc59 : Try.prog.cellsOf 59 = 13 := by kernel_rfl
@[go_sem] theorem tb59 : Try.prog.bytesOf 59 = 136 := by kernel_rfl
@[go_sem] theorem tz59 : pz Try.prog 59 = some [.v (.int .i64 0), .v (.int .i64 0), .v (.int .i64 0), .v (.string ⟨#[]⟩), .v (.string ⟨#[]⟩), .v (.int .i64 0), .v (.slice none 0 0), .v (.int .i64 0), .v (.int .i64 0), .v (.int .i64 0), .v (.int .i64 0), .v (.int .i64 0), .v (.int .i64 0)] := by kernel_rfl
@[go_sem] theorem te59 : Try.prog.eqGuardType Try.prog.depth 59 = false := by kernel_rfl
@[go_sem] theorem ts59 : Try.prog.stoodInHeld 59 = false := by kernel_rfl
attribute [go_sem] Try.underlying60
@[go_sem] theorem tc60 : Try.prog.cellsOf 60 = 13 := by kernel_rfl
@[go_sem] theorem tb60 : Try.prog.bytesOf 60 = 136 := by kernel_rfl
@[go_sem] theorem tz60 : pz Try.prog 60 = some [.v (.int .i64 0), .v (.int .i64 0), .v (.int .i64 0), .v (.string ⟨#[]⟩), .v (.string ⟨#[]⟩), .v (.int .i64 0), .v (.slice none 0 0), .v (.int .i64 0), .v (.int .i64 0), .v (.int .i64 0), .v (.int .i64 0), .v (.int .i64 0), .v (.int .i64 0)] := by kernel_rfl
@[go_sem] theorem te60 : Try.prog.eqGuardType Try.prog.depth 60 = false := by kernel_rfl
@[go_sem] theorem ts60 : Try.prog.stoodInHeld 60 = false := by kernel_rfl
attribute [go_sem] Try.underlying64
@[go_sem] theorem tc64 : Try.prog.cellsOf 64 = 1 := by kernel_rfl
@[go_sem] theorem tb64 : Try.prog.bytesOf 64 = 24 := by kernel_rfl
@[go_sem] theorem tz64 : pz Try.prog 64 = some [.v (.slice none 0 0)] := by kernel_rfl
@[go_sem] theorem tk64 : elemK Try.prog 64 = 2 := by kernel_rfl
attribute [go_sem] Try.underlying65
@[go_sem] theorem tc65 : Try.prog.cellsOf 65 = 1 := by kernel_rfl
@[go_sem] theorem tb65 : Try.prog.bytesOf 65 = 24 := by kernel_rfl
@[go_sem] theorem tz65 : pz Try.prog 65 = some [.v (.slice none 0 0)] := by kernel_rfl
@[go_sem] theorem tk65 : elemK Try.prog 65 = 4 := by kernel_rfl
attribute [go_sem] Try.underlying66
@[go_sem] theorem tc66 : Try.prog.cellsOf 66 = 1 := by kernel_rfl
@[go_sem] theorem tb66 : Try.prog.bytesOf 66 = 24 := by kernel_rfl
@[go_sem] theorem tz66 : pz Try.prog 66 = some [.v (.slice none 0 0)] := by kernel_rfl
@[go_sem] theorem tk66 : elemK Try.prog 66 = 7 := by kernel_rfl
attribute [go_sem] Try.underlying67
@[go_sem] theorem tc67 : Try.prog.cellsOf 67 = 1 := by kernel_rfl
@[go_sem] theorem tb67 : Try.prog.bytesOf 67 = 24 := by kernel_rfl
@[go_sem] theorem tz67 : pz Try.prog 67 = some [.v (.slice none 0 0)] := by kernel_rfl
@[go_sem] theorem tk67 : elemK Try.prog 67 = 4 := by kernel_rfl
attribute [go_sem] Try.underlying68
@[go_sem] theorem tc68 : Try.prog.cellsOf 68 = 1 := by kernel_rfl
@[go_sem] theorem tb68 : Try.prog.bytesOf 68 = 24 := by kernel_rfl
@[go_sem] theorem tz68 : pz Try.prog 68 = some [.v (.slice none 0 0)] := by kernel_rfl
@[go_sem] theorem tk68 : elemK Try.prog 68 = 13 := by kernel_rfl
attribute [go_sem] Try.underlying69
@[go_sem] theorem tc69 : Try.prog.cellsOf 69 = 16 := by kernel_rfl
@[go_sem] theorem tb69 : Try.prog.bytesOf 69 = 336 := by kernel_rfl
@[go_sem] theorem tz69 : pz Try.prog 69 = some [.v (.slice none 0 0), .v (.slice none 0 0), .v (.int .i64 0), .v (.slice none 0 0), .v (.slice none 0 0), .v (.slice none 0 0), .v (.int .i64 0), .v (.slice none 0 0), .v (.slice none 0 0), .v (.int .i64 0), .v (.slice none 0 0), .v (.slice none 0 0), .v (.slice none 0 0), .v (.slice none 0 0), .v (.slice none 0 0), .v (.slice none 0 0)] := by kernel_rfl
@[go_sem] theorem te69 : Try.prog.eqGuardType Try.prog.depth 69 = false := by kernel_rfl
@[go_sem] theorem ts69 : Try.prog.stoodInHeld 69 = false := by kernel_rfl
attribute [go_sem] Try.underlying70
@[go_sem] theorem tc70 : Try.prog.cellsOf 70 = 16 := by kernel_rfl
@[go_sem] theorem tb70 : Try.prog.bytesOf 70 = 336 := by kernel_rfl
@[go_sem] theorem tz70 : pz Try.prog 70 = some [.v (.slice none 0 0), .v (.slice none 0 0), .v (.int .i64 0), .v (.slice none 0 0), .v (.slice none 0 0), .v (.slice none 0 0), .v (.int .i64 0), .v (.slice none 0 0), .v (.slice none 0 0), .v (.int .i64 0), .v (.slice none 0 0), .v (.slice none 0 0), .v (.slice none 0 0), .v (.slice none 0 0), .v (.slice none 0 0), .v (.slice none 0 0)] := by kernel_rfl
@[go_sem] theorem te70 : Try.prog.eqGuardType Try.prog.depth 70 = false := by kernel_rfl
@[go_sem] theorem ts70 : Try.prog.stoodInHeld 70 = false := by kernel_rfl
attribute [go_sem] Try.underlying73
@[go_sem] theorem tc73 : Try.prog.cellsOf 73 = 1 := by kernel_rfl
@[go_sem] theorem tb73 : Try.prog.bytesOf 73 = 24 := by kernel_rfl
@[go_sem] theorem tz73 : pz Try.prog 73 = some [.v (.slice none 0 0)] := by kernel_rfl
@[go_sem] theorem tk73 : elemK Try.prog 73 = 2 := by kernel_rfl
attribute [go_sem] Try.underlying74
@[go_sem] theorem tc74 : Try.prog.cellsOf 74 = 1 := by kernel_rfl
@[go_sem] theorem tb74 : Try.prog.bytesOf 74 = 24 := by kernel_rfl
@[go_sem] theorem tz74 : pz Try.prog 74 = some [.v (.slice none 0 0)] := by kernel_rfl
@[go_sem] theorem tk74 : elemK Try.prog 74 = 4 := by kernel_rfl
attribute [go_sem] Try.underlying75
@[go_sem] theorem tc75 : Try.prog.cellsOf 75 = 1 := by kernel_rfl
@[go_sem] theorem tb75 : Try.prog.bytesOf 75 = 24 := by kernel_rfl
@[go_sem] theorem tz75 : pz Try.prog 75 = some [.v (.slice none 0 0)] := by kernel_rfl
@[go_sem] theorem tk75 : elemK Try.prog 75 = 7 := by kernel_rfl
attribute [go_sem] Try.underlying76
@[go_sem] theorem tc76 : Try.prog.cellsOf 76 = 1 := by kernel_rfl
@[go_sem] theorem tb76 : Try.prog.bytesOf 76 = 24 := by kernel_rfl
@[go_sem] theorem tz76 : pz Try.prog 76 = some [.v (.slice none 0 0)] := by kernel_rfl
@[go_sem] theorem tk76 : elemK Try.prog 76 = 4 := by kernel_rfl
attribute [go_sem] Try.underlying77
@[go_sem] theorem tc77 : Try.prog.cellsOf 77 = 1 := by kernel_rfl
@[go_sem] theorem tb77 : Try.prog.bytesOf 77 = 24 := by kernel_rfl
@[go_sem] theorem tz77 : pz Try.prog 77 = some [.v (.slice none 0 0)] := by kernel_rfl
@[go_sem] theorem tk77 : elemK Try.prog 77 = 13 := by kernel_rfl
attribute [go_sem] Try.underlying78
@[go_sem] theorem tc78 : Try.prog.cellsOf 78 = 16 := by kernel_rfl
@[go_sem] theorem tb78 : Try.prog.bytesOf 78 = 336 := by kernel_rfl
@[go_sem] theorem tz78 : pz Try.prog 78 = some [.v (.slice none 0 0), .v (.slice none 0 0), .v (.int .i64 0), .v (.slice none 0 0), .v (.slice none 0 0), .v (.slice none 0 0), .v (.int .i64 0), .v (.slice none 0 0), .v (.slice none 0 0), .v (.int .i64 0), .v (.slice none 0 0), .v (.slice none 0 0), .v (.slice none 0 0), .v (.slice none 0 0), .v (.slice none 0 0), .v (.slice none 0 0)] := by kernel_rfl
@[go_sem] theorem te78 : Try.prog.eqGuardType Try.prog.depth 78 = false := by kernel_rfl
@[go_sem] theorem ts78 : Try.prog.stoodInHeld 78 = false := by kernel_rfl
attribute [go_sem] Try.underlying79
@[go_sem] theorem tc79 : Try.prog.cellsOf 79 = 16 := by kernel_rfl
@[go_sem] theorem tb79 : Try.prog.bytesOf 79 = 336 := by kernel_rfl
@[go_sem] theorem tz79 : pz Try.prog 79 = some [.v (.slice none 0 0), .v (.slice none 0 0), .v (.int .i64 0), .v (.slice none 0 0), .v (.slice none 0 0), .v (.slice none 0 0), .v (.int .i64 0), .v (.slice none 0 0), .v (.slice none 0 0), .v (.int .i64 0), .v (.slice none 0 0), .v (.slice none 0 0), .v (.slice none 0 0), .v (.slice none 0 0), .v (.slice none 0 0), .v (.slice none 0 0)] := by kernel_rfl
@[go_sem] theorem te79 : Try.prog.eqGuardType Try.prog.depth 79 = false := by kernel_rfl
@[go_sem] theorem ts79 : Try.prog.stoodInHeld 79 = false := by kernel_rfl
attribute [go_sem] Try.underlying90
@[go_sem] theorem tc90 : Try.prog.cellsOf 90 = 6 := by kernel_rfl
@[go_sem] theorem tb90 : Try.prog.bytesOf 90 = 64 := by kernel_rfl
@[go_sem] theorem tz90 : pz Try.prog 90 = some [.v (.string ⟨#[]⟩), .v (.string ⟨#[]⟩), .v (.int .i64 0), .v (.int .i64 0), .v (.int .i64 0), .v (.int .i64 0)] := by kernel_rfl
@[go_sem] theorem te90 : Try.prog.eqGuardType Try.prog.depth 90 = false := by kernel_rfl
@[go_sem] theorem ts90 : Try.prog.stoodInHeld 90 = false := by kernel_rfl
attribute [go_sem] Try.underlying91
@[go_sem] theorem tc91 : Try.prog.cellsOf 91 = 6 := by kernel_rfl
@[go_sem] theorem tb91 : Try.prog.bytesOf 91 = 64 := by kernel_rfl
@[go_sem] theorem tz91 : pz Try.prog 91 = some [.v (.string ⟨#[]⟩), .v (.string ⟨#[]⟩), .v (.int .i64 0), .v (.int .i64 0), .v (.int .i64 0), .v (.int .i64 0)] := by kernel_rfl
@[go_sem] theorem te91 : Try.prog.eqGuardType Try.prog.depth 91 = false := by kernel_rfl
@[go_sem] theorem ts91 : Try.prog.stoodInHeld 91 = false := by kernel_rfl
attribute [go_sem] Try.underlying93
@[go_sem] theorem tc93 : Try.prog.cellsOf 93 = 11 := by kernel_rfl
@[go_sem] theorem tb93 : Try.prog.bytesOf 93 = 128 := by kernel_rfl
@[go_sem] theorem tz93 : pz Try.prog 93 = some [.v (.string ⟨#[]⟩), .v (.string ⟨#[]⟩), .v (.int .i64 0), .v (.int .i64 0), .v (.int .i64 0), .v (.int .i64 0), .v (.slice none 0 0), .v (.int .i64 0), .v (.int .i64 0), .v (.string ⟨#[]⟩), .v (.int .i64 0)] := by kernel_rfl
@[go_sem] theorem te93 : Try.prog.eqGuardType Try.prog.depth 93 = false := by kernel_rfl
@[go_sem] theorem ts93 : Try.prog.stoodInHeld 93 = false := by kernel_rfl
attribute [go_sem] Try.underlying94
@[go_sem] theorem tc94 : Try.prog.cellsOf 94 = 11 := by kernel_rfl
@[go_sem] theorem tb94 : Try.prog.bytesOf 94 = 128 := by kernel_rfl
@[go_sem] theorem tz94 : pz Try.prog 94 = some [.v (.string ⟨#[]⟩), .v (.string ⟨#[]⟩), .v (.int .i64 0), .v (.int .i64 0), .v (.int .i64 0), .v (.int .i64 0), .v (.slice none 0 0), .v (.int .i64 0), .v (.int .i64 0), .v (.string ⟨#[]⟩), .v (.int .i64 0)] := by kernel_rfl
@[go_sem] theorem te94 : Try.prog.eqGuardType Try.prog.depth 94 = false := by kernel_rfl
@[go_sem] theorem ts94 : Try.prog.stoodInHeld 94 = false := by kernel_rfl
attribute [go_sem] Try.underlying95
@[go_sem] theorem tc95 : Try.prog.cellsOf 95 = 4 := by kernel_rfl
@[go_sem] theorem tb95 : Try.prog.bytesOf 95 = 32 := by kernel_rfl
@[go_sem] theorem tz95 : pz Try.prog 95 = some [.v (.int .i64 0), .v (.int .i64 0), .v (.int .i64 0), .v (.int .i64 0)] := by kernel_rfl
@[go_sem] theorem te95 : Try.prog.eqGuardType Try.prog.depth 95 = false := by kernel_rfl
@[go_sem] theorem ts95 : Try.prog.stoodInHeld 95 = false := by kernel_rfl
attribute [go_sem] Try.underlying96
@[go_sem] theorem tc96 : Try.prog.cellsOf 96 = 4 := by kernel_rfl
@[go_sem] theorem tb96 : Try.prog.bytesOf 96 = 32 := by kernel_rfl
@[go_sem] theorem tz96 : pz Try.prog 96 = some [.v (.int .i64 0), .v (.int .i64 0), .v (.int .i64 0), .v (.int .i64 0)] := by kernel_rfl
@[go_sem] theorem te96 : Try.prog.eqGuardType Try.prog.depth 96 = false := by kernel_rfl
@[go_sem] theorem ts96 : Try.prog.stoodInHeld 96 = false := by kernel_rfl
attribute [go_sem] Try.underlying97
@[go_sem] theorem tc97 : Try.prog.cellsOf 97 = 6 := by kernel_rfl
@[go_sem] theorem tb97 : Try.prog.bytesOf 97 = 56 := by kernel_rfl
@[go_sem] theorem tz97 : pz Try.prog 97 = some [.v (.int .i64 0), .v (.int .i64 0), .v (.int .i64 0), .v (.string ⟨#[]⟩), .v (.int .i64 0), .v (.int .i64 0)] := by kernel_rfl
@[go_sem] theorem te97 : Try.prog.eqGuardType Try.prog.depth 97 = false := by kernel_rfl
@[go_sem] theorem ts97 : Try.prog.stoodInHeld 97 = false := by kernel_rfl
attribute [go_sem] Try.underlying98
@[go_sem] theorem tc98 : Try.prog.cellsOf 98 = 6 := by kernel_rfl
@[go_sem] theorem tb98 : Try.prog.bytesOf 98 = 56 := by kernel_rfl
@[go_sem] theorem tz98 : pz Try.prog 98 = some [.v (.int .i64 0), .v (.int .i64 0), .v (.int .i64 0), .v (.string ⟨#[]⟩), .v (.int .i64 0), .v (.int .i64 0)] := by kernel_rfl
@[go_sem] theorem te98 : Try.prog.eqGuardType Try.prog.depth 98 = false := by kernel_rfl
@[go_sem] theorem ts98 : Try.prog.stoodInHeld 98 = false := by kernel_rfl
attribute [go_sem] Try.underlying122
@[go_sem] theorem tc122 : Try.prog.cellsOf 122 = 2 := by kernel_rfl
@[go_sem] theorem tb122 : Try.prog.bytesOf 122 = 32 := by kernel_rfl
@[go_sem] theorem tz122 : pz Try.prog 122 = some [.v (.string ⟨#[]⟩), .v (.string ⟨#[]⟩)] := by kernel_rfl
@[go_sem] theorem te122 : Try.prog.eqGuardType Try.prog.depth 122 = false := by kernel_rfl
@[go_sem] theorem ts122 : Try.prog.stoodInHeld 122 = false := by kernel_rfl
attribute [go_sem] Try.underlying123
@[go_sem] theorem tc123 : Try.prog.cellsOf 123 = 2 := by kernel_rfl
@[go_sem] theorem tb123 : Try.prog.bytesOf 123 = 32 := by kernel_rfl
@[go_sem] theorem tz123 : pz Try.prog 123 = some [.v (.string ⟨#[]⟩), .v (.string ⟨#[]⟩)] := by kernel_rfl
@[go_sem] theorem te123 : Try.prog.eqGuardType Try.prog.depth 123 = false := by kernel_rfl
@[go_sem] theorem ts123 : Try.prog.stoodInHeld 123 = false := by kernel_rfl
attribute [go_sem] Try.underlying124
@[go_sem] theorem tc124 : Try.prog.cellsOf 124 = 4 := by kernel_rfl
@[go_sem] theorem tb124 : Try.prog.bytesOf 124 = 32 := by kernel_rfl
@[go_sem] theorem tz124 : pz Try.prog 124 = some [.v (.int .i64 0), .v (.int .i64 0), .v (.int .i64 0), .v (.int .i64 0)] := by kernel_rfl
@[go_sem] theorem te124 : Try.prog.eqGuardType Try.prog.depth 124 = false := by kernel_rfl
@[go_sem] theorem ts124 : Try.prog.stoodInHeld 124 = false := by kernel_rfl
attribute [go_sem] Try.underlying125
@[go_sem] theorem tc125 : Try.prog.cellsOf 125 = 4 := by kernel_rfl
@[go_sem] theorem tb125 : Try.prog.bytesOf 125 = 32 := by kernel_rfl
@[go_sem] theorem tz125 : pz Try.prog 125 = some [.v (.int .i64 0), .v (.int .i64 0), .v (.int .i64 0), .v (.int .i64 0)] := by kernel_rfl
@[go_sem] theorem te125 : Try.prog.eqGuardType Try.prog.depth 125 = false := by kernel_rfl
@[go_sem] theorem ts125 : Try.prog.stoodInHeld 125 = false := by kernel_rfl
attribute [go_sem] Try.underlying126
@[go_sem] theorem tc126 : Try.prog.cellsOf 126 = 4 := by kernel_rfl
@[go_sem] theorem tb126 : Try.prog.bytesOf 126 = 32 := by kernel_rfl
@[go_sem] theorem tz126 : pz Try.prog 126 = some [.v (.int .i64 0), .v (.int .i64 0), .v (.int .i64 0), .v (.int .i64 0)] := by kernel_rfl
@[go_sem] theorem te126 : Try.prog.eqGuardType Try.prog.depth 126 = false := by kernel_rfl
@[go_sem] theorem ts126 : Try.prog.stoodInHeld 126 = false := by kernel_rfl
attribute [go_sem] Try.underlying127
@[go_sem] theorem tc127 : Try.prog.cellsOf 127 = 4 := by kernel_rfl
@[go_sem] theorem tb127 : Try.prog.bytesOf 127 = 32 := by kernel_rfl
@[go_sem] theorem tz127 : pz Try.prog 127 = some [.v (.int .i64 0), .v (.int .i64 0), .v (.int .i64 0), .v (.int .i64 0)] := by kernel_rfl
@[go_sem] theorem te127 : Try.prog.eqGuardType Try.prog.depth 127 = false := by kernel_rfl
@[go_sem] theorem ts127 : Try.prog.stoodInHeld 127 = false := by kernel_rfl
attribute [go_sem] Try.underlying140
@[go_sem] theorem tc140 : Try.prog.cellsOf 140 = 11 := by kernel_rfl
@[go_sem] theorem tb140 : Try.prog.bytesOf 140 = 128 := by kernel_rfl
@[go_sem] theorem tz140 : pz Try.prog 140 = some [.v (.string ⟨#[]⟩), .v (.string ⟨#[]⟩), .v (.int .i64 0), .v (.int .i64 0), .v (.int .i64 0), .v (.int .i64 0), .v (.slice none 0 0), .v (.int .i64 0), .v (.int .i64 0), .v (.string ⟨#[]⟩), .v (.int .i64 0)] := by kernel_rfl
@[go_sem] theorem te140 : Try.prog.eqGuardType Try.prog.depth 140 = false := by kernel_rfl
@[go_sem] theorem ts140 : Try.prog.stoodInHeld 140 = false := by kernel_rfl
attribute [go_sem] Try.underlying141
@[go_sem] theorem tc141 : Try.prog.cellsOf 141 = 11 := by kernel_rfl
@[go_sem] theorem tb141 : Try.prog.bytesOf 141 = 128 := by kernel_rfl
@[go_sem] theorem tz141 : pz Try.prog 141 = some [.v (.string ⟨#[]⟩), .v (.string ⟨#[]⟩), .v (.int .i64 0), .v (.int .i64 0), .v (.int .i64 0), .v (.int .i64 0), .v (.slice none 0 0), .v (.int .i64 0), .v (.int .i64 0), .v (.string ⟨#[]⟩), .v (.int .i64 0)] := by kernel_rfl
@[go_sem] theorem te141 : Try.prog.eqGuardType Try.prog.depth 141 = false := by kernel_rfl
@[go_sem] theorem ts141 : Try.prog.stoodInHeld 141 = false := by kernel_rfl
attribute [go_sem] Try.underlying143
@[go_sem] theorem tc143 : Try.prog.cellsOf 143 = 6 := by kernel_rfl
@[go_sem] theorem tb143 : Try.prog.bytesOf 143 = 56 := by kernel_rfl
@[go_sem] theorem tz143 : pz Try.prog 143 = some [.v (.int .i64 0), .v (.int .i64 0), .v (.int .i64 0), .v (.string ⟨#[]⟩), .v (.int .i64 0), .v (.int .i64 0)] := by kernel_rfl
@[go_sem] theorem te143 : Try.prog.eqGuardType Try.prog.depth 143 = false := by kernel_rfl
@[go_sem] theorem ts143 : Try.prog.stoodInHeld 143 = false := by kernel_rfl
attribute [go_sem] Try.underlying144
@[go_sem] theorem tc144 : Try.prog.cellsOf 144 = 6 := by kernel_rfl
@[go_sem] theorem tb144 : Try.prog.bytesOf 144 = 56 := by kernel_rfl
@[go_sem] theorem tz144 : pz Try.prog 144 = some [.v (.int .i64 0), .v (.int .i64 0), .v (.int .i64 0), .v (.string ⟨#[]⟩), .v (.int .i64 0), .v (.int .i64 0)] := by kernel_rfl
@[go_sem] theorem te144 : Try.prog.eqGuardType Try.prog.depth 144 = false := by kernel_rfl
@[go_sem] theorem ts144 : Try.prog.stoodInHeld 144 = false := by kernel_rfl
attribute [go_sem] Try.underlying148
@[go_sem] theorem tc148 : Try.prog.cellsOf 148 = 4 := by kernel_rfl
@[go_sem] theorem tb148 : Try.prog.bytesOf 148 = 32 := by kernel_rfl
@[go_sem] theorem tz148 : pz Try.prog 148 = some [.v (.int .i64 0), .v (.int .i64 0), .v (.int .i64 0), .v (.int .i64 0)] := by kernel_rfl
@[go_sem] theorem te148 : Try.prog.eqGuardType Try.prog.depth 148 = false := by kernel_rfl
@[go_sem] theorem ts148 : Try.prog.stoodInHeld 148 = false := by kernel_rfl
attribute [go_sem] Try.underlying149
@[go_sem] theorem tc149 : Try.prog.cellsOf 149 = 4 := by kernel_rfl
@[go_sem] theorem tb149 : Try.prog.bytesOf 149 = 32 := by kernel_rfl
@[go_sem] theorem tz149 : pz Try.prog 149 = some [.v (.int .i64 0), .v (.int .i64 0), .v (.int .i64 0), .v (.int .i64 0)] := by kernel_rfl
@[go_sem] theorem te149 : Try.prog.eqGuardType Try.prog.depth 149 = false := by kernel_rfl
@[go_sem] theorem ts149 : Try.prog.stoodInHeld 149 = false := by kernel_rfl
attribute [go_sem] Try.underlying161
@[go_sem] theorem tc161 : Try.prog.cellsOf 161 = 2 := by kernel_rfl
@[go_sem] theorem tb161 : Try.prog.bytesOf 161 = 32 := by kernel_rfl
@[go_sem] theorem tz161 : pz Try.prog 161 = some [.v (.string ⟨#[]⟩), .v (.string ⟨#[]⟩)] := by kernel_rfl
@[go_sem] theorem te161 : Try.prog.eqGuardType Try.prog.depth 161 = false := by kernel_rfl
@[go_sem] theorem ts161 : Try.prog.stoodInHeld 161 = false := by kernel_rfl
attribute [go_sem] Try.underlying164
@[go_sem] theorem tc164 : Try.prog.cellsOf 164 = 4 := by kernel_rfl
@[go_sem] theorem tb164 : Try.prog.bytesOf 164 = 32 := by kernel_rfl
@[go_sem] theorem tz164 : pz Try.prog 164 = some [.v (.int .i64 0), .v (.int .i64 0), .v (.int .i64 0), .v (.int .i64 0)] := by kernel_rfl
@[go_sem] theorem te164 : Try.prog.eqGuardType Try.prog.depth 164 = false := by kernel_rfl
@[go_sem] theorem ts164 : Try.prog.stoodInHeld 164 = false := by kernel_rfl
attribute [go_sem] Try.underlying166
@[go_sem] theorem tc166 : Try.prog.cellsOf 166 = 4 := by kernel_rfl
@[go_sem] theorem tb166 : Try.prog.bytesOf 166 = 32 := by kernel_rfl
@[go_sem] theorem tz166 : pz Try.prog 166 = some [.v (.int .i64 0), .v (.int .i64 0), .v (.int .i64 0), .v (.int .i64 0)] := by kernel_rfl
@[go_sem] theorem te166 : Try.prog.eqGuardType Try.prog.depth 166 = false := by kernel_rfl
@[go_sem] theorem ts166 : Try.prog.stoodInHeld 166 = false := by kernel_rfl
attribute [go_sem] Try.underlying171
@[go_sem] theorem tc171 : Try.prog.cellsOf 171 = 6 := by kernel_rfl
@[go_sem] theorem tb171 : Try.prog.bytesOf 171 = 64 := by kernel_rfl
@[go_sem] theorem tz171 : pz Try.prog 171 = some [.v (.string ⟨#[]⟩), .v (.string ⟨#[]⟩), .v (.int .i64 0), .v (.int .i64 0), .v (.int .i64 0), .v (.int .i64 0)] := by kernel_rfl
@[go_sem] theorem te171 : Try.prog.eqGuardType Try.prog.depth 171 = false := by kernel_rfl
@[go_sem] theorem ts171 : Try.prog.stoodInHeld 171 = false := by kernel_rfl
attribute [go_sem] Try.underlying181
@[go_sem] theorem tc181 : Try.prog.cellsOf 181 = 1 := by kernel_rfl
@[go_sem] theorem tb181 : Try.prog.bytesOf 181 = 8 := by kernel_rfl
@[go_sem] theorem tz181 : pz Try.prog 181 = some [.v (.int .u64 0)] := by kernel_rfl
attribute [go_sem] Try.underlying187
@[go_sem] theorem tc187 : Try.prog.cellsOf 187 = 1 := by kernel_rfl
@[go_sem] theorem tb187 : Try.prog.bytesOf 187 = 4 := by kernel_rfl
@[go_sem] theorem tz187 : pz Try.prog 187 = some [.v (.int .u32 0)] := by kernel_rfl
attribute [go_sem] Try.underlying189
@[go_sem] theorem tc189 : Try.prog.cellsOf 189 = 1 := by kernel_rfl
@[go_sem] theorem tb189 : Try.prog.bytesOf 189 = 8 := by kernel_rfl
@[go_sem] theorem tz189 : pz Try.prog 189 = some [.v (.int .u64 0)] := by kernel_rfl
@[go_sem] theorem fn3 : isFn Try.prog 3 := ⟨_, Try.func3, rfl, by kernel_rfl⟩
@[go_sem] theorem fn4 : isFn Try.prog 4 := ⟨_, Try.func4, rfl, by kernel_rfl⟩
@[go_sem] theorem fn5 : isFn Try.prog 5 := ⟨_, Try.func5, rfl, by kernel_rfl⟩
@[go_sem] theorem fn6 : isFn Try.prog 6 := ⟨_, Try.func6, rfl, by kernel_rfl⟩
@[go_sem] theorem fn7 : isFn Try.prog 7 := ⟨_, Try.func7, rfl, by kernel_rfl⟩
@[go_sem] theorem fn8 : isFn Try.prog 8 := ⟨_, Try.func8, rfl, by kernel_rfl⟩
@[go_sem] theorem fn9 : isFn Try.prog 9 := ⟨_, Try.func9, rfl, by kernel_rfl⟩
@[go_sem] theorem fn10 : isFn Try.prog 10 := ⟨_, Try.func10, rfl, by kernel_rfl⟩
@[go_sem] theorem fn11 : isFn Try.prog 11 := ⟨_, Try.func11, rfl, by kernel_rfl⟩
@[go_sem] theorem fn12 : isFn Try.prog 12 := ⟨_, Try.func12, rfl, by kernel_rfl⟩
@[go_sem] theorem fn13 : isFn Try.prog 13 := ⟨_, Try.func13, rfl, by kernel_rfl⟩
@[go_sem] theorem fn14 : isFn Try.prog 14 := ⟨_, Try.func14, rfl, by kernel_rfl⟩
@[go_sem] theorem fn15 : isFn Try.prog 15 := ⟨_, Try.func15, rfl, by kernel_rfl⟩
@[go_sem] theorem fn16 : isFn Try.prog 16 := ⟨_, Try.func16, rfl, by kernel_rfl⟩
@[go_sem] theorem fn17 : isFn Try.prog 17 := ⟨_, Try.func17, rfl, by kernel_rfl⟩
@[go_sem] theorem fn18 : isFn Try.prog 18 := ⟨_, Try.func18, rfl, by kernel_rfl⟩
@[go_sem] theorem fn19 : isFn Try.prog 19 := ⟨_, Try.func19, rfl, by kernel_rfl⟩
@[go_sem] theorem fn20 : isFn Try.prog 20 := ⟨_, Try.func20, rfl, by kernel_rfl⟩
@[go_sem] theorem fn21 : isFn Try.prog 21 := ⟨_, Try.func21, rfl, by kernel_rfl⟩
@[go_sem] theorem fn22 : isFn Try.prog 22 := ⟨_, Try.func22, rfl, by kernel_rfl⟩
@[go_sem] theorem fn23 : isFn Try.prog 23 := ⟨_, Try.func23, rfl, by kernel_rfl⟩
@[go_sem] theorem fn24 : isFn Try.prog 24 := ⟨_, Try.func24, rfl, by kernel_rfl⟩
@[go_sem] theorem fn25 : isFn Try.prog 25 := ⟨_, Try.func25, rfl, by kernel_rfl⟩
@[go_sem] theorem fn26 : isFn Try.prog 26 := ⟨_, Try.func26, rfl, by kernel_rfl⟩
@[go_sem] theorem fn27 : isFn Try.prog 27 := ⟨_, Try.func27, rfl, by kernel_rfl⟩
@[go_sem] theorem fn28 : isFn Try.prog 28 := ⟨_, Try.func28, rfl, by kernel_rfl⟩
@[go_sem] theorem fn29 : isFn Try.prog 29 := ⟨_, Try.func29, rfl, by kernel_rfl⟩
@[go_sem] theorem fn30 : isFn Try.prog 30 := ⟨_, Try.func30, rfl, by kernel_rfl⟩
@[go_sem] theorem fn31 : isFn Try.prog 31 := ⟨_, Try.func31, rfl, by kernel_rfl⟩
@[go_sem] theorem fn32 : isFn Try.prog 32 := ⟨_, Try.func32, rfl, by kernel_rfl⟩
@[go_sem] theorem fn33 : isFn Try.prog 33 := ⟨_, Try.func33, rfl, by kernel_rfl⟩
@[go_sem] theorem fn34 : isFn Try.prog 34 := ⟨_, Try.func34, rfl, by kernel_rfl⟩
@[go_sem] theorem fn35 : isFn Try.prog 35 := ⟨_, Try.func35, rfl, by kernel_rfl⟩
@[go_sem] theorem fn36 : isFn Try.prog 36 := ⟨_, Try.func36, rfl, by kernel_rfl⟩
@[go_sem] theorem fn37 : isFn Try.prog 37 := ⟨_, Try.func37, rfl, by kernel_rfl⟩
@[go_sem] theorem fn38 : isFn Try.prog 38 := ⟨_, Try.func38, rfl, by kernel_rfl⟩
@[go_sem] theorem fn39 : isFn Try.prog 39 := ⟨_, Try.func39, rfl, by kernel_rfl⟩
@[go_sem] theorem fn40 : isFn Try.prog 40 := ⟨_, Try.func40, rfl, by kernel_rfl⟩
@[go_sem] theorem fn41 : isFn Try.prog 41 := ⟨_, Try.func41, rfl, by kernel_rfl⟩
@[go_sem] theorem fn42 : isFn Try.prog 42 := ⟨_, Try.func42, rfl, by kernel_rfl⟩
@[go_sem] theorem fn43 : isFn Try.prog 43 := ⟨_, Try.func43, rfl, by kernel_rfl⟩
@[go_sem] theorem fn44 : isFn Try.prog 44 := ⟨_, Try.func44, rfl, by kernel_rfl⟩
@[go_sem] theorem fn45 : isFn Try.prog 45 := ⟨_, Try.func45, rfl, by kernel_rfl⟩
@[go_sem] theorem fn46 : isFn Try.prog 46 := ⟨_, Try.func46, rfl, by kernel_rfl⟩
@[go_sem] theorem fn47 : isFn Try.prog 47 := ⟨_, Try.func47, rfl, by kernel_rfl⟩
@[go_sem] theorem fn48 : isFn Try.prog 48 := ⟨_, Try.func48, rfl, by kernel_rfl⟩
@[go_sem] theorem fn49 : isFn Try.prog 49 := ⟨_, Try.func49, rfl, by kernel_rfl⟩
@[go_sem] theorem fn50 : isFn Try.prog 50 := ⟨_, Try.func50, rfl, by kernel_rfl⟩
@[go_sem] theorem fn51 : isFn Try.prog 51 := ⟨_, Try.func51, rfl, by kernel_rfl⟩
@[go_sem] theorem fn52 : isFn Try.prog 52 := ⟨_, Try.func52, rfl, by kernel_rfl⟩
@[go_sem] theorem fn53 : isFn Try.prog 53 := ⟨_, Try.func53, rfl, by kernel_rfl⟩
@[go_sem] theorem fn54 : isFn Try.prog 54 := ⟨_, Try.func54, rfl, by kernel_rfl⟩
@[go_sem] theorem fn55 : isFn Try.prog 55 := ⟨_, Try.func55, rfl, by kernel_rfl⟩
@[go_sem] theorem fn56 : isFn Try.prog 56 := ⟨_, Try.func56, rfl, by kernel_rfl⟩
@[go_sem] theorem fn57 : isFn Try.prog 57 := ⟨_, Try.func57, rfl, by kernel_rfl⟩
@[go_sem] theorem fn58 : isFn Try.prog 58 := ⟨_, Try.func58, rfl, by kernel_rfl⟩
@[go_sem] theorem fn59 : isFn Try.prog 59 := ⟨_, Try.func59, rfl, by kernel_rfl⟩
@[go_sem] theorem fn60 : isFn Try.prog 60 := ⟨_, Try.func60, rfl, by kernel_rfl⟩
@[go_sem] theorem fn61 : isFn Try.prog 61 := ⟨_, Try.func61, rfl, by kernel_rfl⟩
@[go_sem] theorem fn62 : isFn Try.prog 62 := ⟨_, Try.func62, rfl, by kernel_rfl⟩
@[go_sem] theorem fn63 : isFn Try.prog 63 := ⟨_, Try.func63, rfl, by kernel_rfl⟩
@[go_sem] theorem fn64 : isFn Try.prog 64 := ⟨_, Try.func64, rfl, by kernel_rfl⟩
@[go_sem] theorem fn65 : isFn Try.prog 65 := ⟨_, Try.func65, rfl, by kernel_rfl⟩
@[go_sem] theorem fn66 : isFn Try.prog 66 := ⟨_, Try.func66, rfl, by kernel_rfl⟩
@[go_sem] theorem fn67 : isFn Try.prog 67 := ⟨_, Try.func67, rfl, by kernel_rfl⟩
@[go_sem] theorem fn68 : isFn Try.prog 68 := ⟨_, Try.func68, rfl, by kernel_rfl⟩
@[go_sem] theorem fn69 : isFn Try.prog 69 := ⟨_, Try.func69, rfl, by kernel_rfl⟩
@[go_sem] theorem fn70 : isFn Try.prog 70 := ⟨_, Try.func70, rfl, by kernel_rfl⟩
@[go_sem] theorem fn71 : isFn Try.prog 71 := ⟨_, Try.func71, rfl, by kernel_rfl⟩
@[go_sem] theorem fn72 : isFn Try.prog 72 := ⟨_, Try.func72, rfl, by kernel_rfl⟩
@[go_sem] theorem fn73 : isFn Try.prog 73 := ⟨_, Try.func73, rfl, by kernel_rfl⟩
@[go_sem] theorem fn74 : isFn Try.prog 74 := ⟨_, Try.func74, rfl, by kernel_rfl⟩
@[go_sem] theorem fn75 : isFn Try.prog 75 := ⟨_, Try.func75, rfl, by kernel_rfl⟩
@[go_sem] theorem fn76 : isFn Try.prog 76 := ⟨_, Try.func76, rfl, by kernel_rfl⟩
@[go_sem] theorem fn77 : isFn Try.prog 77 := ⟨_, Try.func77, rfl, by kernel_rfl⟩
@[go_sem] theorem fn78 : isFn Try.prog 78 := ⟨_, Try.func78, rfl, by kernel_rfl⟩
@[go_sem] theorem fn79 : isFn Try.prog 79 := ⟨_, Try.func79, rfl, by kernel_rfl⟩
@[go_sem] theorem fn80 : isFn Try.prog 80 := ⟨_, Try.func80, rfl, by kernel_rfl⟩
@[go_sem] theorem fn81 : isFn Try.prog 81 := ⟨_, Try.func81, rfl, by kernel_rfl⟩
@[go_sem] theorem fn82 : isFn Try.prog 82 := ⟨_, Try.func82, rfl, by kernel_rfl⟩
@[go_sem] theorem fn83 : isFn Try.prog 83 := ⟨_, Try.func83, rfl, by kernel_rfl⟩
@[go_sem] theorem fn84 : isFn Try.prog 84 := ⟨_, Try.func84, rfl, by kernel_rfl⟩
@[go_sem] theorem fn85 : isFn Try.prog 85 := ⟨_, Try.func85, rfl, by kernel_rfl⟩
@[go_sem] theorem fn86 : isFn Try.prog 86 := ⟨_, Try.func86, rfl, by kernel_rfl⟩
@[go_sem] theorem fn87 : isFn Try.prog 87 := ⟨_, Try.func87, rfl, by kernel_rfl⟩
@[go_sem] theorem fn88 : isFn Try.prog 88 := ⟨_, Try.func88, rfl, by kernel_rfl⟩
@[go_sem] theorem fn89 : isFn Try.prog 89 := ⟨_, Try.func89, rfl, by kernel_rfl⟩
@[go_sem] theorem fn90 : isFn Try.prog 90 := ⟨_, Try.func90, rfl, by kernel_rfl⟩
@[go_sem] theorem fn91 : isFn Try.prog 91 := ⟨_, Try.func91, rfl, by kernel_rfl⟩
@[go_sem] theorem fn92 : isFn Try.prog 92 := ⟨_, Try.func92, rfl, by kernel_rfl⟩
@[go_sem] theorem fn93 : isFn Try.prog 93 := ⟨_, Try.func93, rfl, by kernel_rfl⟩
@[go_sem] theorem fn94 : isFn Try.prog 94 := ⟨_, Try.func94, rfl, by kernel_rfl⟩
@[go_sem] theorem fn95 : isFn Try.prog 95 := ⟨_, Try.func95, rfl, by kernel_rfl⟩
@[go_sem] theorem fn96 : isFn Try.prog 96 := ⟨_, Try.func96, rfl, by kernel_rfl⟩
@[go_sem] theorem fn97 : isFn Try.prog 97 := ⟨_, Try.func97, rfl, by kernel_rfl⟩
@[go_sem] theorem fn98 : isFn Try.prog 98 := ⟨_, Try.func98, rfl, by kernel_rfl⟩
@[go_sem] theorem fn99 : isFn Try.prog 99 := ⟨_, Try.func99, rfl, by kernel_rfl⟩
@[go_sem] theorem fn100 : isFn Try.prog 100 := ⟨_, Try.func100, rfl, by kernel_rfl⟩
@[go_sem] theorem fn101 : isFn Try.prog 101 := ⟨_, Try.func101, rfl, by kernel_rfl⟩
@[go_sem] theorem fn102 : isFn Try.prog 102 := ⟨_, Try.func102, rfl, by kernel_rfl⟩
@[go_sem] theorem fn103 : isFn Try.prog 103 := ⟨_, Try.func103, rfl, by kernel_rfl⟩
@[go_sem] theorem fn104 : isFn Try.prog 104 := ⟨_, Try.func104, rfl, by kernel_rfl⟩
@[go_sem] theorem fn105 : isFn Try.prog 105 := ⟨_, Try.func105, rfl, by kernel_rfl⟩
@[go_sem] theorem fn106 : isFn Try.prog 106 := ⟨_, Try.func106, rfl, by kernel_rfl⟩
@[go_sem] theorem fn107 : isFn Try.prog 107 := ⟨_, Try.func107, rfl, by kernel_rfl⟩
@[go_sem] theorem fn108 : isFn Try.prog 108 := ⟨_, Try.func108, rfl, by kernel_rfl⟩
@[go_sem] theorem fn109 : isFn Try.prog 109 := ⟨_, Try.func109, rfl, by kernel_rfl⟩
@[go_sem] theorem fn110 : isFn Try.prog 110 := ⟨_, Try.func110, rfl, by kernel_rfl⟩
@[go_sem] theorem fn111 : isFn Try.prog 111 := ⟨_, Try.func111, rfl, by kernel_rfl⟩
@[go_sem] theorem fn112 : isFn Try.prog 112 := ⟨_, Try.func112, rfl, by kernel_rfl⟩
end Go.Proofs.Ytooikkfldddjfaa
