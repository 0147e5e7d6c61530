/- A part of the proof of the statement in the last file of this claim: texts on the language of the program and on its functions. No condition. -/
import Derived.Test.YtmcdjilbkmhfoaaGreatProg
import Derived.Test.YtmcdjilbkmhfoaaGreatCFnWorldKeeps3
import Derived.Test.YtmcdjilbkmhfoaaGreatChecked
import Derived.Lib.SmallJoins
import Derived.IntWalk
namespace Go.Proofs.YtmcdjilbkmhfoaaGreat
open Go.RowKit
set_option maxRecDepth 10000
attribute [go_sem] Tryz.underlying2
@[go_sem] theorem tc2:Tryz.prog.cellsOf 2=1:=by kernel_rfl
@[go_sem] theorem tb2:Tryz.prog.bytesOf 2=8:=by kernel_rfl
@[go_sem] theorem tz2:pz Tryz.prog 2=some [.v (.int .i64 0)]:=by kernel_rfl
attribute [go_sem] Tryz.underlying3
@[go_sem] theorem tc3:Tryz.prog.cellsOf 3=1:=by kernel_rfl
@[go_sem] theorem tb3:Tryz.prog.bytesOf 3=8:=by kernel_rfl
@[go_sem] theorem tz3:pz Tryz.prog 3=some [.v (.int .i64 0)]:=by kernel_rfl
attribute [go_sem] Tryz.underlying4
@[go_sem] theorem tc4:Tryz.prog.cellsOf 4=1:=by kernel_rfl
@[go_sem] theorem tb4:Tryz.prog.bytesOf 4=1:=by kernel_rfl
@[go_sem] theorem tz4:pz Tryz.prog 4=some [.v (.bool false)]:=by kernel_rfl
attribute [go_sem] Tryz.underlying5
@[go_sem] theorem tc5:Tryz.prog.cellsOf 5=1:=by kernel_rfl
@[go_sem] theorem tb5:Tryz.prog.bytesOf 5=1:=by kernel_rfl
@[go_sem] theorem tz5:pz Tryz.prog 5=some [.v (.int .u8 0)]:=by kernel_rfl
attribute [go_sem] Tryz.underlying9
@[go_sem] theorem tc9:Tryz.prog.cellsOf 9=1:=by kernel_rfl
@[go_sem] theorem tb9:Tryz.prog.bytesOf 9=16:=by kernel_rfl
@[go_sem] theorem tz9:pz Tryz.prog 9=some [.v (.string ⟨#[]⟩)]:=by kernel_rfl
attribute [go_sem] Tryz.underlying12
@[go_sem] theorem tc12:Tryz.prog.cellsOf 12=1:=by kernel_rfl
@[go_sem] theorem tb12:Tryz.prog.bytesOf 12=8:=by kernel_rfl
@[go_sem] theorem tz12:pz Tryz.prog 12=some [.v (.int .u64 0)]:=by kernel_rfl
attribute [go_sem] Tryz.underlying21
@[go_sem] theorem tc21:Tryz.prog.cellsOf 21=1:=by kernel_rfl
@[go_sem] theorem tb21:Tryz.prog.bytesOf 21=4:=by kernel_rfl
@[go_sem] theorem tz21:pz Tryz.prog 21=some [.v (.int .i32 0)]:=by kernel_rfl
attribute [go_sem] Tryz.underlying22
@[go_sem] theorem tc22:Tryz.prog.cellsOf 22=1:=by kernel_rfl
@[go_sem] theorem tb22:Tryz.prog.bytesOf 22=24:=by kernel_rfl
@[go_sem] theorem tz22:pz Tryz.prog 22=some [.v (.slice none 0 0)]:=by kernel_rfl
@[go_sem] theorem tk22:Zfp Tryz.prog 22=6:=by kernel_rfl
attribute [go_sem] Tryz.underlying23
@[go_sem] theorem tc23:Tryz.prog.cellsOf 23=1:=by kernel_rfl
@[go_sem] theorem tb23:Tryz.prog.bytesOf 23=24:=by kernel_rfl
@[go_sem] theorem tz23:pz Tryz.prog 23=some [.v (.slice none 0 0)]:=by kernel_rfl
@[go_sem] theorem tk23:Zfp Tryz.prog 23=1:=by kernel_rfl
attribute [go_sem] Tryz.underlying24
@[go_sem] theorem tc24:Tryz.prog.cellsOf 24=3:=by kernel_rfl
@[go_sem] theorem tb24:Tryz.prog.bytesOf 24=56:=by kernel_rfl
@[go_sem] theorem tz24:pz Tryz.prog 24=some [.v (.slice none 0 0),.v (.slice none 0 0),.v (.int .i64 0)]:=by kernel_rfl
@[go_sem] theorem te24:Tryz.prog.eqGuardType Tryz.prog.depth 24=false:=by kernel_rfl
@[go_sem] theorem ts24:Tryz.prog.stoodInHeld 24=false:=by kernel_rfl
attribute [go_sem] Tryz.underlying25
@[go_sem] theorem tc25:Tryz.prog.cellsOf 25=3:=by kernel_rfl
@[go_sem] theorem tb25:Tryz.prog.bytesOf 25=56:=by kernel_rfl
@[go_sem] theorem tz25:pz Tryz.prog 25=some [.v (.slice none 0 0),.v (.slice none 0 0),.v (.int .i64 0)]:=by kernel_rfl
@[go_sem] theorem te25:Tryz.prog.eqGuardType Tryz.prog.depth 25=false:=by kernel_rfl
@[go_sem] theorem ts25:Tryz.prog.stoodInHeld 25=false:=by kernel_rfl
attribute [go_sem] Tryz.underlying26
@[go_sem] theorem tc26:Tryz.prog.cellsOf 26=1:=by kernel_rfl
@[go_sem] theorem tb26:Tryz.prog.bytesOf 26=24:=by kernel_rfl
@[go_sem] theorem tz26:pz Tryz.prog 26=some [.v (.slice none 0 0)]:=by kernel_rfl
@[go_sem] theorem tk26:Zfp Tryz.prog 26=11:=by kernel_rfl
attribute [go_sem] Tryz.underlying27
@[go_sem] theorem tc27:Tryz.prog.cellsOf 27=1:=by kernel_rfl
@[go_sem] theorem tb27:Tryz.prog.bytesOf 27=24:=by kernel_rfl
@[go_sem] theorem tz27:pz Tryz.prog 27=some [.v (.slice none 0 0)]:=by kernel_rfl
@[go_sem] theorem tk27:Zfp Tryz.prog 27=4:=by kernel_rfl
attribute [go_sem] Tryz.underlying28
@[go_sem] theorem tc28:Tryz.prog.cellsOf 28=1:=by kernel_rfl
@[go_sem] theorem tb28:Tryz.prog.bytesOf 28=24:=by kernel_rfl
@[go_sem] theorem tz28:pz Tryz.prog 28=some [.v (.slice none 0 0)]:=by kernel_rfl
@[go_sem] theorem tk28:Zfp Tryz.prog 28=2:=by kernel_rfl
attribute [go_sem] Tryz.underlying29
@[go_sem] theorem tc29:Tryz.prog.cellsOf 29=1:=by kernel_rfl
@[go_sem] theorem tb29:Tryz.prog.bytesOf 29=24:=by kernel_rfl
@[go_sem] theorem tz29:pz Tryz.prog 29=some [.v (.slice none 0 0)]:=by kernel_rfl
@[go_sem] theorem tk29:Zfp Tryz.prog 29=6:=by kernel_rfl
attribute [go_sem] Tryz.underlying30
@[go_sem] theorem tc30:Tryz.prog.cellsOf 30=10:=by kernel_rfl
@[go_sem] theorem tb30:Tryz.prog.bytesOf 30=192:=by kernel_rfl
@[go_sem] theorem tz30:pz Tryz.prog 30=some [.v (.slice none 0 0),.v (.slice none 0 0),.v (.int .i64 0),.v (.slice none 0 0),.v (.slice none 0 0),.v (.slice none 0 0),.v (.int .i64 0),.v (.slice none 0 0),.v (.slice none 0 0),.v (.int .i64 0)]:=by kernel_rfl
@[go_sem] theorem te30:Tryz.prog.eqGuardType Tryz.prog.depth 30=false:=by kernel_rfl
@[go_sem] theorem ts30:Tryz.prog.stoodInHeld 30=false:=by kernel_rfl
attribute [go_sem] Tryz.underlying31
@[go_sem] theorem tc31:Tryz.prog.cellsOf 31=10:=by kernel_rfl
@[go_sem] theorem tb31:Tryz.prog.bytesOf 31=192:=by kernel_rfl
@[go_sem] theorem tz31:pz Tryz.prog 31=some [.v (.slice none 0 0),.v (.slice none 0 0),.v (.int .i64 0),.v (.slice none 0 0),.v (.slice none 0 0),.v (.slice none 0 0),.v (.int .i64 0),.v (.slice none 0 0),.v (.slice none 0 0),.v (.int .i64 0)]:=by kernel_rfl
@[go_sem] theorem te31:Tryz.prog.eqGuardType Tryz.prog.depth 31=false:=by kernel_rfl
@[go_sem] theorem ts31:Tryz.prog.stoodInHeld 31=false:=by kernel_rfl
attribute [go_sem] Tryz.underlying33
@[go_sem] theorem tc33:Tryz.prog.cellsOf 33=1:=by kernel_rfl
@[go_sem] theorem tb33:Tryz.prog.bytesOf 33=24:=by kernel_rfl
@[go_sem] theorem tz33:pz Tryz.prog 33=some [.v (.slice none 0 0)]:=by kernel_rfl
@[go_sem] theorem tk33:Zfp Tryz.prog 33=6:=by kernel_rfl
attribute [go_sem] Tryz.underlying34
@[go_sem] theorem tc34:Tryz.prog.cellsOf 34=3:=by kernel_rfl
@[go_sem] theorem tb34:Tryz.prog.bytesOf 34=56:=by kernel_rfl
@[go_sem] theorem tz34:pz Tryz.prog 34=some [.v (.slice none 0 0),.v (.slice none 0 0),.v (.int .i64 0)]:=by kernel_rfl
@[go_sem] theorem te34:Tryz.prog.eqGuardType Tryz.prog.depth 34=false:=by kernel_rfl
@[go_sem] theorem ts34:Tryz.prog.stoodInHeld 34=false:=by kernel_rfl
attribute [go_sem] Tryz.underlying35
@[go_sem] theorem tc35:Tryz.prog.cellsOf 35=3:=by kernel_rfl
@[go_sem] theorem tb35:Tryz.prog.bytesOf 35=56:=by kernel_rfl
@[go_sem] theorem tz35:pz Tryz.prog 35=some [.v (.slice none 0 0),.v (.slice none 0 0),.v (.int .i64 0)]:=by kernel_rfl
@[go_sem] theorem te35:Tryz.prog.eqGuardType Tryz.prog.depth 35=false:=by kernel_rfl
@[go_sem] theorem ts35:Tryz.prog.stoodInHeld 35=false:=by kernel_rfl
attribute [go_sem] Tryz.underlying36
@[go_sem] theorem tc36:Tryz.prog.cellsOf 36=1:=by kernel_rfl
@[go_sem] theorem tb36:Tryz.prog.bytesOf 36=24:=by kernel_rfl
@[go_sem] theorem tz36:pz Tryz.prog 36=some [.v (.slice none 0 0)]:=by kernel_rfl
@[go_sem] theorem tk36:Zfp Tryz.prog 36=11:=by kernel_rfl
attribute [go_sem] Tryz.underlying37
@[go_sem] theorem tc37:Tryz.prog.cellsOf 37=1:=by kernel_rfl
@[go_sem] theorem tb37:Tryz.prog.bytesOf 37=24:=by kernel_rfl
@[go_sem] theorem tz37:pz Tryz.prog 37=some [.v (.slice none 0 0)]:=by kernel_rfl
@[go_sem] theorem tk37:Zfp Tryz.prog 37=4:=by kernel_rfl
attribute [go_sem] Tryz.underlying38
@[go_sem] theorem tc38:Tryz.prog.cellsOf 38=1:=by kernel_rfl
@[go_sem] theorem tb38:Tryz.prog.bytesOf 38=24:=by kernel_rfl
@[go_sem] theorem tz38:pz Tryz.prog 38=some [.v (.slice none 0 0)]:=by kernel_rfl
@[go_sem] theorem tk38:Zfp Tryz.prog 38=2:=by kernel_rfl
attribute [go_sem] Tryz.underlying39
@[go_sem] theorem tc39:Tryz.prog.cellsOf 39=1:=by kernel_rfl
@[go_sem] theorem tb39:Tryz.prog.bytesOf 39=24:=by kernel_rfl
@[go_sem] theorem tz39:pz Tryz.prog 39=some [.v (.slice none 0 0)]:=by kernel_rfl
@[go_sem] theorem tk39:Zfp Tryz.prog 39=6:=by kernel_rfl
attribute [go_sem] Tryz.underlying40
@[go_sem] theorem tc40:Tryz.prog.cellsOf 40=10:=by kernel_rfl
@[go_sem] theorem tb40:Tryz.prog.bytesOf 40=192:=by kernel_rfl
@[go_sem] theorem tz40:pz Tryz.prog 40=some [.v (.slice none 0 0),.v (.slice none 0 0),.v (.int .i64 0),.v (.slice none 0 0),.v (.slice none 0 0),.v (.slice none 0 0),.v (.int .i64 0),.v (.slice none 0 0),.v (.slice none 0 0),.v (.int .i64 0)]:=by kernel_rfl
@[go_sem] theorem te40:Tryz.prog.eqGuardType Tryz.prog.depth 40=false:=by kernel_rfl
@[go_sem] theorem ts40:Tryz.prog.stoodInHeld 40=false:=by kernel_rfl
attribute [go_sem] Tryz.underlying41
@[go_sem] theorem tc41:Tryz.prog.cellsOf 41=10:=by kernel_rfl
@[go_sem] theorem tb41:Tryz.prog.bytesOf 41=192:=by kernel_rfl
@[go_sem] theorem tz41:pz Tryz.prog 41=some [.v (.slice none 0 0),.v (.slice none 0 0),.v (.int .i64 0),.v (.slice none 0 0),.v (.slice none 0 0),.v (.slice none 0 0),.v (.int .i64 0),.v (.slice none 0 0),.v (.slice none 0 0),.v (.int .i64 0)]:=by kernel_rfl
@[go_sem] theorem te41:Tryz.prog.eqGuardType Tryz.prog.depth 41=false:=by kernel_rfl
@[go_sem] theorem ts41:Tryz.prog.stoodInHeld 41=false:=by kernel_rfl
attribute [go_sem] Tryz.underlying47
@[go_sem] theorem tc47:Tryz.prog.cellsOf 47=1:=by kernel_rfl
@[go_sem] theorem tb47:Tryz.prog.bytesOf 47=24:=by kernel_rfl
@[go_sem] theorem tz47:pz Tryz.prog 47=some [.v (.slice none 0 0)]:=by kernel_rfl
@[go_sem] theorem tk47:Zfp Tryz.prog 47=1:=by kernel_rfl
attribute [go_sem] Tryz.underlying54
@[go_sem] theorem tc54:Tryz.prog.cellsOf 54=2:=by kernel_rfl
@[go_sem] theorem tb54:Tryz.prog.bytesOf 54=16:=by kernel_rfl
@[go_sem] theorem tz54:pz Tryz.prog 54=some [.v (.int .i64 0),.v (.int .i64 0)]:=by kernel_rfl
@[go_sem] theorem te54:Tryz.prog.eqGuardType Tryz.prog.depth 54=false:=by kernel_rfl
@[go_sem] theorem ts54:Tryz.prog.stoodInHeld 54=false:=by kernel_rfl
attribute [go_sem] Tryz.underlying55
@[go_sem] theorem tc55:Tryz.prog.cellsOf 55=2:=by kernel_rfl
@[go_sem] theorem tb55:Tryz.prog.bytesOf 55=16:=by kernel_rfl
@[go_sem] theorem tz55:pz Tryz.prog 55=some [.v (.int .i64 0),.v (.int .i64 0)]:=by kernel_rfl
@[go_sem] theorem te55:Tryz.prog.eqGuardType Tryz.prog.depth 55=false:=by kernel_rfl
@[go_sem] theorem ts55:Tryz.prog.stoodInHeld 55=false:=by kernel_rfl
attribute [go_sem] Tryz.underlying61
@[go_sem] theorem tc61:Tryz.prog.cellsOf 61=11:=by kernel_rfl
@[go_sem] theorem tb61:Tryz.prog.bytesOf 61=128:=by kernel_rfl
@[go_sem] theorem tz61:pz Tryz.prog 61=some [.v (.string ⟨#[]⟩),.v (.string ⟨#[]⟩),.v (.int .i64 0),.v (.int .i64 0),.v (.int .i64 0),.v (.int .i64 0),.v (.slice none 0 0),.v (.int .i64 0),.v (.int .i64 0),.v (.string ⟨#[]⟩),.v (.int .i64 0)]:=by kernel_rfl
@[go_sem] theorem te61:Tryz.prog.eqGuardType Tryz.prog.depth 61=false:=by kernel_rfl
@[go_sem] theorem ts61:Tryz.prog.stoodInHeld 61=false:=by kernel_rfl
attribute [go_sem] Tryz.underlying62
@[go_sem] theorem tc62:Tryz.prog.cellsOf 62=11:=by kernel_rfl
@[go_sem] theorem tb62:Tryz.prog.bytesOf 62=128:=by kernel_rfl
@[go_sem] theorem tz62:pz Tryz.prog 62=some [.v (.string ⟨#[]⟩),.v (.string ⟨#[]⟩),.v (.int .i64 0),.v (.int .i64 0),.v (.int .i64 0),.v (.int .i64 0),.v (.slice none 0 0),.v (.int .i64 0),.v (.int .i64 0),.v (.string ⟨#[]⟩),.v (.int .i64 0)]:=by kernel_rfl
@[go_sem] theorem te62:Tryz.prog.eqGuardType Tryz.prog.depth 62=false:=by kernel_rfl
@[go_sem] theorem ts62:Tryz.prog.stoodInHeld 62=false:=by kernel_rfl
attribute [go_sem] Tryz.underlying66
@[go_sem] theorem tc66:Tryz.prog.cellsOf 66=6:=by kernel_rfl
@[go_sem] theorem tb66:Tryz.prog.bytesOf 66=64:=by kernel_rfl
@[go_sem] theorem tz66:pz Tryz.prog 66=some [.v (.string ⟨#[]⟩),.v (.string ⟨#[]⟩),.v (.int .i64 0),.v (.int .i64 0),.v (.int .i64 0),.v (.int .i64 0)]:=by kernel_rfl
@[go_sem] theorem te66:Tryz.prog.eqGuardType Tryz.prog.depth 66=false:=by kernel_rfl
@[go_sem] theorem ts66:Tryz.prog.stoodInHeld 66=false:=by kernel_rfl
attribute [go_sem] Tryz.underlying67
@[go_sem] theorem tc67:Tryz.prog.cellsOf 67=6:=by kernel_rfl
@[go_sem] theorem tb67:Tryz.prog.bytesOf 67=64:=by kernel_rfl
@[go_sem] theorem tz67:pz Tryz.prog 67=some [.v (.string ⟨#[]⟩),.v (.string ⟨#[]⟩),.v (.int .i64 0),.v (.int .i64 0),.v (.int .i64 0),.v (.int .i64 0)]:=by kernel_rfl
@[go_sem] theorem te67:Tryz.prog.eqGuardType Tryz.prog.depth 67=false:=by kernel_rfl
@[go_sem] theorem ts67:Tryz.prog.stoodInHeld 67=false:=by kernel_rfl
attribute [go_sem] Tryz.underlying71
@[go_sem] theorem tc71:Tryz.prog.cellsOf 71=2:=by kernel_rfl
@[go_sem] theorem tb71:Tryz.prog.bytesOf 71=16:=by kernel_rfl
@[go_sem] theorem tz71:pz Tryz.prog 71=some [.v (.int .i64 0),.v (.int .i64 0)]:=by kernel_rfl
@[go_sem] theorem te71:Tryz.prog.eqGuardType Tryz.prog.depth 71=false:=by kernel_rfl
@[go_sem] theorem ts71:Tryz.prog.stoodInHeld 71=false:=by kernel_rfl
attribute [go_sem] Tryz.underlying81
@[go_sem] theorem tc81:Tryz.prog.cellsOf 81=1:=by kernel_rfl
@[go_sem] theorem tb81:Tryz.prog.bytesOf 81=24:=by kernel_rfl
@[go_sem] theorem tz81:pz Tryz.prog 81=some [.v (.slice none 0 0)]:=by kernel_rfl
@[go_sem] theorem tk81:Zfp Tryz.prog 81=1:=by kernel_rfl
attribute [go_sem] Tryz.underlying91
@[go_sem] theorem tc91:Tryz.prog.cellsOf 91=2:=by kernel_rfl
@[go_sem] theorem tb91:Tryz.prog.bytesOf 91=48:=by kernel_rfl
@[go_sem] theorem tz91:pz Tryz.prog 91=some [.v (.slice none 0 0),.v (.slice none 0 0)]:=by kernel_rfl
@[go_sem] theorem te91:Tryz.prog.eqGuardType Tryz.prog.depth 91=false:=by kernel_rfl
@[go_sem] theorem ts91:Tryz.prog.stoodInHeld 91=false:=by kernel_rfl
attribute [go_sem] Tryz.underlying92
@[go_sem] theorem tc92:Tryz.prog.cellsOf 92=2:=by kernel_rfl
@[go_sem] theorem tb92:Tryz.prog.bytesOf 92=48:=by kernel_rfl
@[go_sem] theorem tz92:pz Tryz.prog 92=some [.v (.slice none 0 0),.v (.slice none 0 0)]:=by kernel_rfl
@[go_sem] theorem te92:Tryz.prog.eqGuardType Tryz.prog.depth 92=false:=by kernel_rfl
@[go_sem] theorem ts92:Tryz.prog.stoodInHeld 92=false:=by kernel_rfl
attribute [go_sem] Tryz.underlying129
@[go_sem] theorem ZCw:Tryz.prog.cellsOf 129=6:=by kernel_rfl
@[go_sem] theorem ZCb:Tryz.prog.bytesOf 129=56:=by kernel_rfl
@[go_sem] theorem ZDk:pz Tryz.prog 129=some [.v (.int .i64 0),.v (.int .i64 0),.v (.int .i64 0),.v (.string ⟨#[]⟩),.v (.int .i64 0),.v (.int .i64 0)]:=by kernel_rfl
@[go_sem] theorem ZCP:Tryz.prog.eqGuardType Tryz.prog.depth 129=false:=by kernel_rfl
@[go_sem] theorem ZC5:Tryz.prog.stoodInHeld 129=false:=by kernel_rfl
attribute [go_sem] Tryz.underlying130
@[go_sem] theorem Zzr:Tryz.prog.cellsOf 130=6:=by kernel_rfl
@[go_sem] theorem ZCc:Tryz.prog.bytesOf 130=56:=by kernel_rfl
@[go_sem] theorem ZDl:pz Tryz.prog 130=some [.v (.int .i64 0),.v (.int .i64 0),.v (.int .i64 0),.v (.string ⟨#[]⟩),.v (.int .i64 0),.v (.int .i64 0)]:=by kernel_rfl
@[go_sem] theorem ZyK:Tryz.prog.eqGuardType Tryz.prog.depth 130=false:=by kernel_rfl
@[go_sem] theorem Zzt:Tryz.prog.stoodInHeld 130=false:=by kernel_rfl
attribute [go_sem] Tryz.underlying134
@[go_sem] theorem ZCx:Tryz.prog.cellsOf 134=4:=by kernel_rfl
@[go_sem] theorem ZCd:Tryz.prog.bytesOf 134=32:=by kernel_rfl
@[go_sem] theorem ZDm:pz Tryz.prog 134=some [.v (.int .i64 0),.v (.int .i64 0),.v (.int .i64 0),.v (.int .i64 0)]:=by kernel_rfl
@[go_sem] theorem ZCQ:Tryz.prog.eqGuardType Tryz.prog.depth 134=false:=by kernel_rfl
@[go_sem] theorem ZC6:Tryz.prog.stoodInHeld 134=false:=by kernel_rfl
attribute [go_sem] Tryz.underlying135
@[go_sem] theorem Zzs:Tryz.prog.cellsOf 135=4:=by kernel_rfl
@[go_sem] theorem ZCe:Tryz.prog.bytesOf 135=32:=by kernel_rfl
@[go_sem] theorem ZDn:pz Tryz.prog 135=some [.v (.int .i64 0),.v (.int .i64 0),.v (.int .i64 0),.v (.int .i64 0)]:=by kernel_rfl
@[go_sem] theorem ZyL:Tryz.prog.eqGuardType Tryz.prog.depth 135=false:=by kernel_rfl
@[go_sem] theorem Zzu:Tryz.prog.stoodInHeld 135=false:=by kernel_rfl
attribute [go_sem] Tryz.underlying159
@[go_sem] theorem ZCy:Tryz.prog.cellsOf 159=2:=by kernel_rfl
@[go_sem] theorem ZCf:Tryz.prog.bytesOf 159=24:=by kernel_rfl
@[go_sem] theorem ZDo:pz Tryz.prog 159=some [.v (.string ⟨#[]⟩),.v (.int .i64 0)]:=by kernel_rfl
@[go_sem] theorem ZCR:Tryz.prog.eqGuardType Tryz.prog.depth 159=false:=by kernel_rfl
@[go_sem] theorem ZC7:Tryz.prog.stoodInHeld 159=false:=by kernel_rfl
attribute [go_sem] Tryz.underlying160
@[go_sem] theorem ZCz:Tryz.prog.cellsOf 160=2:=by kernel_rfl
@[go_sem] theorem ZCg:Tryz.prog.bytesOf 160=24:=by kernel_rfl
@[go_sem] theorem ZDp:pz Tryz.prog 160=some [.v (.string ⟨#[]⟩),.v (.int .i64 0)]:=by kernel_rfl
@[go_sem] theorem ZCS:Tryz.prog.eqGuardType Tryz.prog.depth 160=false:=by kernel_rfl
@[go_sem] theorem ZC8:Tryz.prog.stoodInHeld 160=false:=by kernel_rfl
attribute [go_sem] Tryz.underlying161
@[go_sem] theorem ZCA:Tryz.prog.cellsOf 161=15:=by kernel_rfl
@[go_sem] theorem ZCh:Tryz.prog.bytesOf 161=168:=by kernel_rfl
@[go_sem] theorem ZDq:pz Tryz.prog 161=some [.v (.slice none 0 0),.v (.slice none 0 0),.v (.int .i64 0),.v (.int .i64 0),.v (.bool false),.v (.string ⟨#[]⟩),.v (.int .i64 0),.v (.int .i64 0),.v (.bool false),.v (.bool false),.v (.string ⟨#[]⟩),.v (.int .i64 0),.v (.string ⟨#[]⟩),.v (.int .i64 0),.v (.bool false)]:=by kernel_rfl
@[go_sem] theorem ZCT:Tryz.prog.eqGuardType Tryz.prog.depth 161=false:=by kernel_rfl
@[go_sem] theorem ZC9:Tryz.prog.stoodInHeld 161=false:=by kernel_rfl
attribute [go_sem] Tryz.underlying162
@[go_sem] theorem ZCB:Tryz.prog.cellsOf 162=15:=by kernel_rfl
@[go_sem] theorem ZCi:Tryz.prog.bytesOf 162=168:=by kernel_rfl
@[go_sem] theorem ZDr:pz Tryz.prog 162=some [.v (.slice none 0 0),.v (.slice none 0 0),.v (.int .i64 0),.v (.int .i64 0),.v (.bool false),.v (.string ⟨#[]⟩),.v (.int .i64 0),.v (.int .i64 0),.v (.bool false),.v (.bool false),.v (.string ⟨#[]⟩),.v (.int .i64 0),.v (.string ⟨#[]⟩),.v (.int .i64 0),.v (.bool false)]:=by kernel_rfl
@[go_sem] theorem ZCU:Tryz.prog.eqGuardType Tryz.prog.depth 162=false:=by kernel_rfl
@[go_sem] theorem ZDa:Tryz.prog.stoodInHeld 162=false:=by kernel_rfl
attribute [go_sem] Tryz.underlying168
@[go_sem] theorem ZCC:Tryz.prog.cellsOf 168=11:=by kernel_rfl
@[go_sem] theorem ZCj:Tryz.prog.bytesOf 168=128:=by kernel_rfl
@[go_sem] theorem ZDs:pz Tryz.prog 168=some [.v (.string ⟨#[]⟩),.v (.string ⟨#[]⟩),.v (.int .i64 0),.v (.int .i64 0),.v (.int .i64 0),.v (.int .i64 0),.v (.slice none 0 0),.v (.int .i64 0),.v (.int .i64 0),.v (.string ⟨#[]⟩),.v (.int .i64 0)]:=by kernel_rfl
@[go_sem] theorem ZCV:Tryz.prog.eqGuardType Tryz.prog.depth 168=false:=by kernel_rfl
@[go_sem] theorem ZDb:Tryz.prog.stoodInHeld 168=false:=by kernel_rfl
attribute [go_sem] Tryz.underlying169
@[go_sem] theorem ZCD:Tryz.prog.cellsOf 169=11:=by kernel_rfl
@[go_sem] theorem ZCk:Tryz.prog.bytesOf 169=128:=by kernel_rfl
@[go_sem] theorem ZDt:pz Tryz.prog 169=some [.v (.string ⟨#[]⟩),.v (.string ⟨#[]⟩),.v (.int .i64 0),.v (.int .i64 0),.v (.int .i64 0),.v (.int .i64 0),.v (.slice none 0 0),.v (.int .i64 0),.v (.int .i64 0),.v (.string ⟨#[]⟩),.v (.int .i64 0)]:=by kernel_rfl
@[go_sem] theorem ZCW:Tryz.prog.eqGuardType Tryz.prog.depth 169=false:=by kernel_rfl
@[go_sem] theorem ZDc:Tryz.prog.stoodInHeld 169=false:=by kernel_rfl
attribute [go_sem] Tryz.underlying171
@[go_sem] theorem ZCE:Tryz.prog.cellsOf 171=6:=by kernel_rfl
@[go_sem] theorem ZCl:Tryz.prog.bytesOf 171=56:=by kernel_rfl
@[go_sem] theorem ZDu:pz Tryz.prog 171=some [.v (.int .i64 0),.v (.int .i64 0),.v (.int .i64 0),.v (.string ⟨#[]⟩),.v (.int .i64 0),.v (.int .i64 0)]:=by kernel_rfl
@[go_sem] theorem ZCX:Tryz.prog.eqGuardType Tryz.prog.depth 171=false:=by kernel_rfl
@[go_sem] theorem ZDd:Tryz.prog.stoodInHeld 171=false:=by kernel_rfl
attribute [go_sem] Tryz.underlying172
@[go_sem] theorem ZCF:Tryz.prog.cellsOf 172=6:=by kernel_rfl
@[go_sem] theorem ZCm:Tryz.prog.bytesOf 172=56:=by kernel_rfl
@[go_sem] theorem ZDv:pz Tryz.prog 172=some [.v (.int .i64 0),.v (.int .i64 0),.v (.int .i64 0),.v (.string ⟨#[]⟩),.v (.int .i64 0),.v (.int .i64 0)]:=by kernel_rfl
@[go_sem] theorem ZCY:Tryz.prog.eqGuardType Tryz.prog.depth 172=false:=by kernel_rfl
@[go_sem] theorem ZDe:Tryz.prog.stoodInHeld 172=false:=by kernel_rfl
attribute [go_sem] Tryz.underlying177
@[go_sem] theorem ZCG:Tryz.prog.cellsOf 177=4:=by kernel_rfl
@[go_sem] theorem ZCn:Tryz.prog.bytesOf 177=32:=by kernel_rfl
@[go_sem] theorem ZDw:pz Tryz.prog 177=some [.v (.int .i64 0),.v (.int .i64 0),.v (.int .i64 0),.v (.int .i64 0)]:=by kernel_rfl
@[go_sem] theorem ZCZ:Tryz.prog.eqGuardType Tryz.prog.depth 177=false:=by kernel_rfl
@[go_sem] theorem ZDf:Tryz.prog.stoodInHeld 177=false:=by kernel_rfl
attribute [go_sem] Tryz.underlying178
@[go_sem] theorem ZCH:Tryz.prog.cellsOf 178=4:=by kernel_rfl
@[go_sem] theorem ZCo:Tryz.prog.bytesOf 178=32:=by kernel_rfl
@[go_sem] theorem ZDx:pz Tryz.prog 178=some [.v (.int .i64 0),.v (.int .i64 0),.v (.int .i64 0),.v (.int .i64 0)]:=by kernel_rfl
@[go_sem] theorem ZC0:Tryz.prog.eqGuardType Tryz.prog.depth 178=false:=by kernel_rfl
@[go_sem] theorem ZDg:Tryz.prog.stoodInHeld 178=false:=by kernel_rfl
attribute [go_sem] Tryz.underlying186
@[go_sem] theorem ZCI:Tryz.prog.cellsOf 186=3:=by kernel_rfl
@[go_sem] theorem ZCp:Tryz.prog.bytesOf 186=40:=by kernel_rfl
@[go_sem] theorem ZDy:pz Tryz.prog 186=some [.v (.slice none 0 0),.v (.int .i64 0),.v (.int .i64 0)]:=by kernel_rfl
@[go_sem] theorem ZC1:Tryz.prog.eqGuardType Tryz.prog.depth 186=false:=by kernel_rfl
@[go_sem] theorem ZDh:Tryz.prog.stoodInHeld 186=false:=by kernel_rfl
attribute [go_sem] Tryz.underlying187
@[go_sem] theorem ZCJ:Tryz.prog.cellsOf 187=3:=by kernel_rfl
@[go_sem] theorem ZCq:Tryz.prog.bytesOf 187=40:=by kernel_rfl
@[go_sem] theorem ZDz:pz Tryz.prog 187=some [.v (.slice none 0 0),.v (.int .i64 0),.v (.int .i64 0)]:=by kernel_rfl
@[go_sem] theorem ZC2:Tryz.prog.eqGuardType Tryz.prog.depth 187=false:=by kernel_rfl
@[go_sem] theorem ZDi:Tryz.prog.stoodInHeld 187=false:=by kernel_rfl
attribute [go_sem] Tryz.underlying214
@[go_sem] theorem ZCK:Tryz.prog.cellsOf 214=1:=by kernel_rfl
@[go_sem] theorem ZCr:Tryz.prog.bytesOf 214=24:=by kernel_rfl
@[go_sem] theorem ZDA:pz Tryz.prog 214=some [.v (.slice none 0 0)]:=by kernel_rfl
@[go_sem] theorem ZC4:Zfp Tryz.prog 214=1:=by kernel_rfl
attribute [go_sem] Tryz.underlying225
@[go_sem] theorem ZCL:Tryz.prog.cellsOf 225=6:=by kernel_rfl
@[go_sem] theorem ZCs:Tryz.prog.bytesOf 225=64:=by kernel_rfl
@[go_sem] theorem ZDB:pz Tryz.prog 225=some [.v (.string ⟨#[]⟩),.v (.string ⟨#[]⟩),.v (.int .i64 0),.v (.int .i64 0),.v (.int .i64 0),.v (.int .i64 0)]:=by kernel_rfl
@[go_sem] theorem ZC3:Tryz.prog.eqGuardType Tryz.prog.depth 225=false:=by kernel_rfl
@[go_sem] theorem ZDj:Tryz.prog.stoodInHeld 225=false:=by kernel_rfl
attribute [go_sem] Tryz.underlying230
@[go_sem] theorem ZCM:Tryz.prog.cellsOf 230=1:=by kernel_rfl
@[go_sem] theorem ZCt:Tryz.prog.bytesOf 230=8:=by kernel_rfl
@[go_sem] theorem ZDC:pz Tryz.prog 230=some [.v (.int .u64 0)]:=by kernel_rfl
attribute [go_sem] Tryz.underlying271
@[go_sem] theorem ZCN:Tryz.prog.cellsOf 271=1:=by kernel_rfl
@[go_sem] theorem ZCu:Tryz.prog.bytesOf 271=4:=by kernel_rfl
@[go_sem] theorem ZDD:pz Tryz.prog 271=some [.v (.int .u32 0)]:=by kernel_rfl
attribute [go_sem] Tryz.underlying273
@[go_sem] theorem ZCO:Tryz.prog.cellsOf 273=1:=by kernel_rfl
@[go_sem] theorem ZCv:Tryz.prog.bytesOf 273=8:=by kernel_rfl
@[go_sem] theorem ZDE:pz Tryz.prog 273=some [.v (.int .u64 0)]:=by kernel_rfl
@[go_sem] theorem fn3:isFn Tryz.prog 3:=⟨_,Tryz.func3,rfl,by kernel_rfl⟩
@[go_sem] theorem fn4:isFn Tryz.prog 4:=⟨_,Tryz.func4,rfl,by kernel_rfl⟩
@[go_sem] theorem fn5:isFn Tryz.prog 5:=⟨_,Tryz.func5,rfl,by kernel_rfl⟩
@[go_sem] theorem fn6:isFn Tryz.prog 6:=⟨_,Tryz.func6,rfl,by kernel_rfl⟩
@[go_sem] theorem fn7:isFn Tryz.prog 7:=⟨_,Tryz.func7,rfl,by kernel_rfl⟩
@[go_sem] theorem fn8:isFn Tryz.prog 8:=⟨_,Tryz.func8,rfl,by kernel_rfl⟩
@[go_sem] theorem fn9:isFn Tryz.prog 9:=⟨_,Tryz.func9,rfl,by kernel_rfl⟩
@[go_sem] theorem fn10:isFn Tryz.prog 10:=⟨_,Tryz.func10,rfl,by kernel_rfl⟩
@[go_sem] theorem fn11:isFn Tryz.prog 11:=⟨_,Tryz.func11,rfl,by kernel_rfl⟩
@[go_sem] theorem fn12:isFn Tryz.prog 12:=⟨_,Tryz.func12,rfl,by kernel_rfl⟩
@[go_sem] theorem fn13:isFn Tryz.prog 13:=⟨_,Tryz.func13,rfl,by kernel_rfl⟩
@[go_sem] theorem fn14:isFn Tryz.prog 14:=⟨_,Tryz.func14,rfl,by kernel_rfl⟩
@[go_sem] theorem fn15:isFn Tryz.prog 15:=⟨_,Tryz.func15,rfl,by kernel_rfl⟩
@[go_sem] theorem fn16:isFn Tryz.prog 16:=⟨_,Tryz.func16,rfl,by kernel_rfl⟩
@[go_sem] theorem fn17:isFn Tryz.prog 17:=⟨_,Tryz.func17,rfl,by kernel_rfl⟩
@[go_sem] theorem fn18:isFn Tryz.prog 18:=⟨_,Tryz.func18,rfl,by kernel_rfl⟩
@[go_sem] theorem fn19:isFn Tryz.prog 19:=⟨_,Tryz.func19,rfl,by kernel_rfl⟩
@[go_sem] theorem fn20:isFn Tryz.prog 20:=⟨_,Tryz.func20,rfl,by kernel_rfl⟩
@[go_sem] theorem fn21:isFn Tryz.prog 21:=⟨_,Tryz.func21,rfl,by kernel_rfl⟩
@[go_sem] theorem fn22:isFn Tryz.prog 22:=⟨_,Tryz.func22,rfl,by kernel_rfl⟩
@[go_sem] theorem fn23:isFn Tryz.prog 23:=⟨_,Tryz.func23,rfl,by kernel_rfl⟩
@[go_sem] theorem fn24:isFn Tryz.prog 24:=⟨_,Tryz.func24,rfl,by kernel_rfl⟩
@[go_sem] theorem fn25:isFn Tryz.prog 25:=⟨_,Tryz.func25,rfl,by kernel_rfl⟩
@[go_sem] theorem fn26:isFn Tryz.prog 26:=⟨_,Tryz.func26,rfl,by kernel_rfl⟩
@[go_sem] theorem fn27:isFn Tryz.prog 27:=⟨_,Tryz.func27,rfl,by kernel_rfl⟩
@[go_sem] theorem fn28:isFn Tryz.prog 28:=⟨_,Tryz.func28,rfl,by kernel_rfl⟩
@[go_sem] theorem fn29:isFn Tryz.prog 29:=⟨_,Tryz.func29,rfl,by kernel_rfl⟩
@[go_sem] theorem fn30:isFn Tryz.prog 30:=⟨_,Tryz.func30,rfl,by kernel_rfl⟩
@[go_sem] theorem fn31:isFn Tryz.prog 31:=⟨_,Tryz.func31,rfl,by kernel_rfl⟩
@[go_sem] theorem fn32:isFn Tryz.prog 32:=⟨_,Tryz.func32,rfl,by kernel_rfl⟩
@[go_sem] theorem fn33:isFn Tryz.prog 33:=⟨_,Tryz.func33,rfl,by kernel_rfl⟩
@[go_sem] theorem fn34:isFn Tryz.prog 34:=⟨_,Tryz.func34,rfl,by kernel_rfl⟩
@[go_sem] theorem fn35:isFn Tryz.prog 35:=⟨_,Tryz.func35,rfl,by kernel_rfl⟩
@[go_sem] theorem fn36:isFn Tryz.prog 36:=⟨_,Tryz.func36,rfl,by kernel_rfl⟩
@[go_sem] theorem fn37:isFn Tryz.prog 37:=⟨_,Tryz.func37,rfl,by kernel_rfl⟩
@[go_sem] theorem fn38:isFn Tryz.prog 38:=⟨_,Tryz.func38,rfl,by kernel_rfl⟩
@[go_sem] theorem fn39:isFn Tryz.prog 39:=⟨_,Tryz.func39,rfl,by kernel_rfl⟩
@[go_sem] theorem fn40:isFn Tryz.prog 40:=⟨_,Tryz.func40,rfl,by kernel_rfl⟩
@[go_sem] theorem fn41:isFn Tryz.prog 41:=⟨_,Tryz.func41,rfl,by kernel_rfl⟩
@[go_sem] theorem fn42:isFn Tryz.prog 42:=⟨_,Tryz.func42,rfl,by kernel_rfl⟩
@[go_sem] theorem fn43:isFn Tryz.prog 43:=⟨_,Tryz.func43,rfl,by kernel_rfl⟩
@[go_sem] theorem fn44:isFn Tryz.prog 44:=⟨_,Tryz.func44,rfl,by kernel_rfl⟩
@[go_sem] theorem fn45:isFn Tryz.prog 45:=⟨_,Tryz.func45,rfl,by kernel_rfl⟩
@[go_sem] theorem fn46:isFn Tryz.prog 46:=⟨_,Tryz.func46,rfl,by kernel_rfl⟩
@[go_sem] theorem fn47:isFn Tryz.prog 47:=⟨_,Tryz.func47,rfl,by kernel_rfl⟩
@[go_sem] theorem fn48:isFn Tryz.prog 48:=⟨_,Tryz.func48,rfl,by kernel_rfl⟩
@[go_sem] theorem fn49:isFn Tryz.prog 49:=⟨_,Tryz.func49,rfl,by kernel_rfl⟩
@[go_sem] theorem fn50:isFn Tryz.prog 50:=⟨_,Tryz.func50,rfl,by kernel_rfl⟩
@[go_sem] theorem fn51:isFn Tryz.prog 51:=⟨_,Tryz.func51,rfl,by kernel_rfl⟩
@[go_sem] theorem fn52:isFn Tryz.prog 52:=⟨_,Tryz.func52,rfl,by kernel_rfl⟩
@[go_sem] theorem fn53:isFn Tryz.prog 53:=⟨_,Tryz.func53,rfl,by kernel_rfl⟩
@[go_sem] theorem fn54:isFn Tryz.prog 54:=⟨_,Tryz.func54,rfl,by kernel_rfl⟩
@[go_sem] theorem fn55:isFn Tryz.prog 55:=⟨_,Tryz.func55,rfl,by kernel_rfl⟩
@[go_sem] theorem fn56:isFn Tryz.prog 56:=⟨_,Tryz.func56,rfl,by kernel_rfl⟩
@[go_sem] theorem fn57:isFn Tryz.prog 57:=⟨_,Tryz.func57,rfl,by kernel_rfl⟩
@[go_sem] theorem fn58:isFn Tryz.prog 58:=⟨_,Tryz.func58,rfl,by kernel_rfl⟩
@[go_sem] theorem fn59:isFn Tryz.prog 59:=⟨_,Tryz.func59,rfl,by kernel_rfl⟩
@[go_sem] theorem fn60:isFn Tryz.prog 60:=⟨_,Tryz.func60,rfl,by kernel_rfl⟩
@[go_sem] theorem fn61:isFn Tryz.prog 61:=⟨_,Tryz.func61,rfl,by kernel_rfl⟩
@[go_sem] theorem fn62:isFn Tryz.prog 62:=⟨_,Tryz.func62,rfl,by kernel_rfl⟩
@[go_sem] theorem fn63:isFn Tryz.prog 63:=⟨_,Tryz.func63,rfl,by kernel_rfl⟩
@[go_sem] theorem fn64:isFn Tryz.prog 64:=⟨_,Tryz.func64,rfl,by kernel_rfl⟩
@[go_sem] theorem fn65:isFn Tryz.prog 65:=⟨_,Tryz.func65,rfl,by kernel_rfl⟩
@[go_sem] theorem fn66:isFn Tryz.prog 66:=⟨_,Tryz.func66,rfl,by kernel_rfl⟩
@[go_sem] theorem fn67:isFn Tryz.prog 67:=⟨_,Tryz.func67,rfl,by kernel_rfl⟩
@[go_sem] theorem fn68:isFn Tryz.prog 68:=⟨_,Tryz.func68,rfl,by kernel_rfl⟩
@[go_sem] theorem fn69:isFn Tryz.prog 69:=⟨_,Tryz.func69,rfl,by kernel_rfl⟩
@[go_sem] theorem fn70:isFn Tryz.prog 70:=⟨_,Tryz.func70,rfl,by kernel_rfl⟩
@[go_sem] theorem fn71:isFn Tryz.prog 71:=⟨_,Tryz.func71,rfl,by kernel_rfl⟩
@[go_sem] theorem fn72:isFn Tryz.prog 72:=⟨_,Tryz.func72,rfl,by kernel_rfl⟩
@[go_sem] theorem fn73:isFn Tryz.prog 73:=⟨_,Tryz.func73,rfl,by kernel_rfl⟩
@[go_sem] theorem fn74:isFn Tryz.prog 74:=⟨_,Tryz.func74,rfl,by kernel_rfl⟩
@[go_sem] theorem fn75:isFn Tryz.prog 75:=⟨_,Tryz.func75,rfl,by kernel_rfl⟩
@[go_sem] theorem fn76:isFn Tryz.prog 76:=⟨_,Tryz.func76,rfl,by kernel_rfl⟩
@[go_sem] theorem fn77:isFn Tryz.prog 77:=⟨_,Tryz.func77,rfl,by kernel_rfl⟩
@[go_sem] theorem fn78:isFn Tryz.prog 78:=⟨_,Tryz.func78,rfl,by kernel_rfl⟩
@[go_sem] theorem fn79:isFn Tryz.prog 79:=⟨_,Tryz.func79,rfl,by kernel_rfl⟩
@[go_sem] theorem fn80:isFn Tryz.prog 80:=⟨_,Tryz.func80,rfl,by kernel_rfl⟩
@[go_sem] theorem fn81:isFn Tryz.prog 81:=⟨_,Tryz.func81,rfl,by kernel_rfl⟩
@[go_sem] theorem fn82:isFn Tryz.prog 82:=⟨_,Tryz.func82,rfl,by kernel_rfl⟩
@[go_sem] theorem fn83:isFn Tryz.prog 83:=⟨_,Tryz.func83,rfl,by kernel_rfl⟩
@[go_sem] theorem fn84:isFn Tryz.prog 84:=⟨_,Tryz.func84,rfl,by kernel_rfl⟩
@[go_sem] theorem fn85:isFn Tryz.prog 85:=⟨_,Tryz.func85,rfl,by kernel_rfl⟩
@[go_sem] theorem fn86:isFn Tryz.prog 86:=⟨_,Tryz.func86,rfl,by kernel_rfl⟩
@[go_sem] theorem fn87:isFn Tryz.prog 87:=⟨_,Tryz.func87,rfl,by kernel_rfl⟩
@[go_sem] theorem fn88:isFn Tryz.prog 88:=⟨_,Tryz.func88,rfl,by kernel_rfl⟩
@[go_sem] theorem fn89:isFn Tryz.prog 89:=⟨_,Tryz.func89,rfl,by kernel_rfl⟩
@[go_sem] theorem fn90:isFn Tryz.prog 90:=⟨_,Tryz.func90,rfl,by kernel_rfl⟩
@[go_sem] theorem fn91:isFn Tryz.prog 91:=⟨_,Tryz.func91,rfl,by kernel_rfl⟩
@[go_sem] theorem fn92:isFn Tryz.prog 92:=⟨_,Tryz.func92,rfl,by kernel_rfl⟩
@[go_sem] theorem fn93:isFn Tryz.prog 93:=⟨_,Tryz.func93,rfl,by kernel_rfl⟩
@[go_sem] theorem fn94:isFn Tryz.prog 94:=⟨_,Tryz.func94,rfl,by kernel_rfl⟩
@[go_sem] theorem fn95:isFn Tryz.prog 95:=⟨_,Tryz.func95,rfl,by kernel_rfl⟩
@[go_sem] theorem fn96:isFn Tryz.prog 96:=⟨_,Tryz.func96,rfl,by kernel_rfl⟩
@[go_sem] theorem fn97:isFn Tryz.prog 97:=⟨_,Tryz.func97,rfl,by kernel_rfl⟩
@[go_sem] theorem fn98:isFn Tryz.prog 98:=⟨_,Tryz.func98,rfl,by kernel_rfl⟩
@[go_sem] theorem fn99:isFn Tryz.prog 99:=⟨_,Tryz.func99,rfl,by kernel_rfl⟩
@[go_sem] theorem ZzK:isFn Tryz.prog 100:=⟨_,Tryz.func100,rfl,by kernel_rfl⟩
@[go_sem] theorem ZzL:isFn Tryz.prog 101:=⟨_,Tryz.func101,rfl,by kernel_rfl⟩
@[go_sem] theorem ZzM:isFn Tryz.prog 102:=⟨_,Tryz.func102,rfl,by kernel_rfl⟩
@[go_sem] theorem ZzN:isFn Tryz.prog 103:=⟨_,Tryz.func103,rfl,by kernel_rfl⟩
@[go_sem] theorem ZzO:isFn Tryz.prog 104:=⟨_,Tryz.func104,rfl,by kernel_rfl⟩
@[go_sem] theorem ZzP:isFn Tryz.prog 105:=⟨_,Tryz.func105,rfl,by kernel_rfl⟩
@[go_sem] theorem ZzQ:isFn Tryz.prog 106:=⟨_,Tryz.func106,rfl,by kernel_rfl⟩
@[go_sem] theorem ZzR:isFn Tryz.prog 107:=⟨_,Tryz.func107,rfl,by kernel_rfl⟩
@[go_sem] theorem ZzS:isFn Tryz.prog 108:=⟨_,Tryz.func108,rfl,by kernel_rfl⟩
@[go_sem] theorem ZzT:isFn Tryz.prog 109:=⟨_,Tryz.func109,rfl,by kernel_rfl⟩
@[go_sem] theorem ZzU:isFn Tryz.prog 110:=⟨_,Tryz.func110,rfl,by kernel_rfl⟩
@[go_sem] theorem ZzV:isFn Tryz.prog 111:=⟨_,Tryz.func111,rfl,by kernel_rfl⟩
@[go_sem] theorem ZzW:isFn Tryz.prog 112:=⟨_,Tryz.func112,rfl,by kernel_rfl⟩
@[go_sem] theorem ZzX:isFn Tryz.prog 113:=⟨_,Tryz.func113,rfl,by kernel_rfl⟩
@[go_sem] theorem ZzY:isFn Tryz.prog 114:=⟨_,Tryz.func114,rfl,by kernel_rfl⟩
@[go_sem] theorem ZzZ:isFn Tryz.prog 115:=⟨_,Tryz.func115,rfl,by kernel_rfl⟩
@[go_sem] theorem Zz0:isFn Tryz.prog 116:=⟨_,Tryz.func116,rfl,by kernel_rfl⟩
@[go_sem] theorem Zz1:isFn Tryz.prog 117:=⟨_,Tryz.func117,rfl,by kernel_rfl⟩
@[go_sem] theorem Zz2:isFn Tryz.prog 118:=⟨_,Tryz.func118,rfl,by kernel_rfl⟩
@[go_sem] theorem Zz3:isFn Tryz.prog 119:=⟨_,Tryz.func119,rfl,by kernel_rfl⟩
@[go_sem] theorem Zz4:isFn Tryz.prog 120:=⟨_,Tryz.func120,rfl,by kernel_rfl⟩
@[go_sem] theorem Zz5:isFn Tryz.prog 121:=⟨_,Tryz.func121,rfl,by kernel_rfl⟩
@[go_sem] theorem Zz6:isFn Tryz.prog 122:=⟨_,Tryz.func122,rfl,by kernel_rfl⟩
@[go_sem] theorem Zz7:isFn Tryz.prog 123:=⟨_,Tryz.func123,rfl,by kernel_rfl⟩
@[go_sem] theorem Zz8:isFn Tryz.prog 124:=⟨_,Tryz.func124,rfl,by kernel_rfl⟩
@[go_sem] theorem Zz9:isFn Tryz.prog 125:=⟨_,Tryz.func125,rfl,by kernel_rfl⟩
@[go_sem] theorem ZAa:isFn Tryz.prog 126:=⟨_,Tryz.func126,rfl,by kernel_rfl⟩
@[go_sem] theorem ZAb:isFn Tryz.prog 127:=⟨_,Tryz.func127,rfl,by kernel_rfl⟩
@[go_sem] theorem ZAc:isFn Tryz.prog 128:=⟨_,Tryz.func128,rfl,by kernel_rfl⟩
@[go_sem] theorem ZAd:isFn Tryz.prog 129:=⟨_,Tryz.func129,rfl,by kernel_rfl⟩
@[go_sem] theorem ZAe:isFn Tryz.prog 130:=⟨_,Tryz.func130,rfl,by kernel_rfl⟩
@[go_sem] theorem ZAf:isFn Tryz.prog 131:=⟨_,Tryz.func131,rfl,by kernel_rfl⟩
@[go_sem] theorem ZAg:isFn Tryz.prog 132:=⟨_,Tryz.func132,rfl,by kernel_rfl⟩
@[go_sem] theorem ZAh:isFn Tryz.prog 133:=⟨_,Tryz.func133,rfl,by kernel_rfl⟩
@[go_sem] theorem ZAi:isFn Tryz.prog 134:=⟨_,Tryz.func134,rfl,by kernel_rfl⟩
@[go_sem] theorem ZAj:isFn Tryz.prog 135:=⟨_,Tryz.func135,rfl,by kernel_rfl⟩
@[go_sem] theorem ZAk:isFn Tryz.prog 136:=⟨_,Tryz.func136,rfl,by kernel_rfl⟩
@[go_sem] theorem ZAl:isFn Tryz.prog 137:=⟨_,Tryz.func137,rfl,by kernel_rfl⟩
@[go_sem] theorem ZAm:isFn Tryz.prog 138:=⟨_,Tryz.func138,rfl,by kernel_rfl⟩
@[go_sem] theorem ZAn:isFn Tryz.prog 139:=⟨_,Tryz.func139,rfl,by kernel_rfl⟩
@[go_sem] theorem ZAo:isFn Tryz.prog 140:=⟨_,Tryz.func140,rfl,by kernel_rfl⟩
@[go_sem] theorem ZAp:isFn Tryz.prog 141:=⟨_,Tryz.func141,rfl,by kernel_rfl⟩
@[go_sem] theorem ZAq:isFn Tryz.prog 142:=⟨_,Tryz.func142,rfl,by kernel_rfl⟩
@[go_sem] theorem ZAr:isFn Tryz.prog 143:=⟨_,Tryz.func143,rfl,by kernel_rfl⟩
@[go_sem] theorem ZAs:isFn Tryz.prog 144:=⟨_,Tryz.func144,rfl,by kernel_rfl⟩
@[go_sem] theorem ZAt:isFn Tryz.prog 145:=⟨_,Tryz.func145,rfl,by kernel_rfl⟩
@[go_sem] theorem ZAu:isFn Tryz.prog 146:=⟨_,Tryz.func146,rfl,by kernel_rfl⟩
@[go_sem] theorem ZAv:isFn Tryz.prog 147:=⟨_,Tryz.func147,rfl,by kernel_rfl⟩
@[go_sem] theorem ZAw:isFn Tryz.prog 148:=⟨_,Tryz.func148,rfl,by kernel_rfl⟩
@[go_sem] theorem ZAx:isFn Tryz.prog 149:=⟨_,Tryz.func149,rfl,by kernel_rfl⟩
@[go_sem] theorem ZAy:isFn Tryz.prog 150:=⟨_,Tryz.func150,rfl,by kernel_rfl⟩
@[go_sem] theorem ZAz:isFn Tryz.prog 151:=⟨_,Tryz.func151,rfl,by kernel_rfl⟩
@[go_sem] theorem ZAA:isFn Tryz.prog 152:=⟨_,Tryz.func152,rfl,by kernel_rfl⟩
@[go_sem] theorem ZAB:isFn Tryz.prog 153:=⟨_,Tryz.func153,rfl,by kernel_rfl⟩
@[go_sem] theorem ZAC:isFn Tryz.prog 154:=⟨_,Tryz.func154,rfl,by kernel_rfl⟩
@[go_sem] theorem ZAD:isFn Tryz.prog 155:=⟨_,Tryz.func155,rfl,by kernel_rfl⟩
@[go_sem] theorem ZAE:isFn Tryz.prog 156:=⟨_,Tryz.func156,rfl,by kernel_rfl⟩
@[go_sem] theorem ZAF:isFn Tryz.prog 157:=⟨_,Tryz.func157,rfl,by kernel_rfl⟩
@[go_sem] theorem ZAG:isFn Tryz.prog 158:=⟨_,Tryz.func158,rfl,by kernel_rfl⟩
@[go_sem] theorem ZAH:isFn Tryz.prog 159:=⟨_,Tryz.func159,rfl,by kernel_rfl⟩
@[go_sem] theorem ZAI:isFn Tryz.prog 160:=⟨_,Tryz.func160,rfl,by kernel_rfl⟩
@[go_sem] theorem ZAJ:isFn Tryz.prog 161:=⟨_,Tryz.func161,rfl,by kernel_rfl⟩
@[go_sem] theorem ZAK:isFn Tryz.prog 162:=⟨_,Tryz.func162,rfl,by kernel_rfl⟩
@[go_sem] theorem ZAL:isFn Tryz.prog 163:=⟨_,Tryz.func163,rfl,by kernel_rfl⟩
@[go_sem] theorem ZAM:isFn Tryz.prog 164:=⟨_,Tryz.func164,rfl,by kernel_rfl⟩
@[go_sem] theorem ZAN:isFn Tryz.prog 165:=⟨_,Tryz.func165,rfl,by kernel_rfl⟩
@[go_sem] theorem ZAO:isFn Tryz.prog 166:=⟨_,Tryz.func166,rfl,by kernel_rfl⟩
@[go_sem] theorem ZAP:isFn Tryz.prog 167:=⟨_,Tryz.func167,rfl,by kernel_rfl⟩
@[go_sem] theorem ZAQ:isFn Tryz.prog 168:=⟨_,Tryz.func168,rfl,by kernel_rfl⟩
@[go_sem] theorem ZAR:isFn Tryz.prog 169:=⟨_,Tryz.func169,rfl,by kernel_rfl⟩
@[go_sem] theorem ZAS:isFn Tryz.prog 170:=⟨_,Tryz.func170,rfl,by kernel_rfl⟩
@[go_sem] theorem ZAT:isFn Tryz.prog 171:=⟨_,Tryz.func171,rfl,by kernel_rfl⟩
@[go_sem] theorem ZAU:isFn Tryz.prog 172:=⟨_,Tryz.func172,rfl,by kernel_rfl⟩
@[go_sem] theorem ZAV:isFn Tryz.prog 173:=⟨_,Tryz.func173,rfl,by kernel_rfl⟩
@[go_sem] theorem ZAW:isFn Tryz.prog 174:=⟨_,Tryz.func174,rfl,by kernel_rfl⟩
@[go_sem] theorem ZAX:isFn Tryz.prog 175:=⟨_,Tryz.func175,rfl,by kernel_rfl⟩
@[go_sem] theorem ZAY:isFn Tryz.prog 176:=⟨_,Tryz.func176,rfl,by kernel_rfl⟩
@[go_sem] theorem ZAZ:isFn Tryz.prog 177:=⟨_,Tryz.func177,rfl,by kernel_rfl⟩
@[go_sem] theorem ZA0:isFn Tryz.prog 178:=⟨_,Tryz.func178,rfl,by kernel_rfl⟩
@[go_sem] theorem ZA1:isFn Tryz.prog 179:=⟨_,Tryz.func179,rfl,by kernel_rfl⟩
@[go_sem] theorem ZA2:isFn Tryz.prog 180:=⟨_,Tryz.func180,rfl,by kernel_rfl⟩
@[go_sem] theorem ZA3:isFn Tryz.prog 181:=⟨_,Tryz.func181,rfl,by kernel_rfl⟩
@[go_sem] theorem ZA4:isFn Tryz.prog 182:=⟨_,Tryz.func182,rfl,by kernel_rfl⟩
@[go_sem] theorem ZA5:isFn Tryz.prog 183:=⟨_,Tryz.func183,rfl,by kernel_rfl⟩
@[go_sem] theorem ZA6:isFn Tryz.prog 184:=⟨_,Tryz.func184,rfl,by kernel_rfl⟩
@[go_sem] theorem ZA7:isFn Tryz.prog 185:=⟨_,Tryz.func185,rfl,by kernel_rfl⟩
@[go_sem] theorem ZA8:isFn Tryz.prog 186:=⟨_,Tryz.func186,rfl,by kernel_rfl⟩
@[go_sem] theorem ZA9:isFn Tryz.prog 187:=⟨_,Tryz.func187,rfl,by kernel_rfl⟩
@[go_sem] theorem ZBa:isFn Tryz.prog 188:=⟨_,Tryz.func188,rfl,by kernel_rfl⟩
@[go_sem] theorem ZBb:isFn Tryz.prog 189:=⟨_,Tryz.func189,rfl,by kernel_rfl⟩
@[go_sem] theorem ZBc:isFn Tryz.prog 190:=⟨_,Tryz.func190,rfl,by kernel_rfl⟩
@[go_sem] theorem ZBd:isFn Tryz.prog 191:=⟨_,Tryz.func191,rfl,by kernel_rfl⟩
@[go_sem] theorem ZBe:isFn Tryz.prog 192:=⟨_,Tryz.func192,rfl,by kernel_rfl⟩
@[go_sem] theorem ZBf:isFn Tryz.prog 193:=⟨_,Tryz.func193,rfl,by kernel_rfl⟩
@[go_sem] theorem ZBg:isFn Tryz.prog 194:=⟨_,Tryz.func194,rfl,by kernel_rfl⟩
@[go_sem] theorem ZBh:isFn Tryz.prog 195:=⟨_,Tryz.func195,rfl,by kernel_rfl⟩
@[go_sem] theorem ZBi:isFn Tryz.prog 196:=⟨_,Tryz.func196,rfl,by kernel_rfl⟩
@[go_sem] theorem ZBj:isFn Tryz.prog 197:=⟨_,Tryz.func197,rfl,by kernel_rfl⟩
@[go_sem] theorem ZBk:isFn Tryz.prog 198:=⟨_,Tryz.func198,rfl,by kernel_rfl⟩
@[go_sem] theorem ZBl:isFn Tryz.prog 199:=⟨_,Tryz.func199,rfl,by kernel_rfl⟩
@[go_sem] theorem ZBm:isFn Tryz.prog 201:=⟨_,Tryz.func201,rfl,by kernel_rfl⟩
@[go_sem] theorem ZBn:isFn Tryz.prog 202:=⟨_,Tryz.func202,rfl,by kernel_rfl⟩
@[go_sem] theorem ZBo:isFn Tryz.prog 203:=⟨_,Tryz.func203,rfl,by kernel_rfl⟩
@[go_sem] theorem ZBp:isFn Tryz.prog 204:=⟨_,Tryz.func204,rfl,by kernel_rfl⟩
@[go_sem] theorem ZBq:isFn Tryz.prog 205:=⟨_,Tryz.func205,rfl,by kernel_rfl⟩
@[go_sem] theorem ZBr:isFn Tryz.prog 207:=⟨_,Tryz.func207,rfl,by kernel_rfl⟩
@[go_sem] theorem ZBs:isFn Tryz.prog 208:=⟨_,Tryz.func208,rfl,by kernel_rfl⟩
@[go_sem] theorem ZBt:isFn Tryz.prog 209:=⟨_,Tryz.func209,rfl,by kernel_rfl⟩
@[go_sem] theorem ZBu:isFn Tryz.prog 210:=⟨_,Tryz.func210,rfl,by kernel_rfl⟩
@[go_sem] theorem ZBv:isFn Tryz.prog 211:=⟨_,Tryz.func211,rfl,by kernel_rfl⟩
@[go_sem] theorem ZBw:isFn Tryz.prog 212:=⟨_,Tryz.func212,rfl,by kernel_rfl⟩
@[go_sem] theorem ZBx:isFn Tryz.prog 213:=⟨_,Tryz.func213,rfl,by kernel_rfl⟩
@[go_sem] theorem ZBy:isFn Tryz.prog 214:=⟨_,Tryz.func214,rfl,by kernel_rfl⟩
@[go_sem] theorem ZBz:isFn Tryz.prog 215:=⟨_,Tryz.func215,rfl,by kernel_rfl⟩
@[go_sem] theorem ZBA:isFn Tryz.prog 216:=⟨_,Tryz.func216,rfl,by kernel_rfl⟩
@[go_sem] theorem ZBB:isFn Tryz.prog 217:=⟨_,Tryz.func217,rfl,by kernel_rfl⟩
@[go_sem] theorem ZBC:isFn Tryz.prog 218:=⟨_,Tryz.func218,rfl,by kernel_rfl⟩
@[go_sem] theorem ZBD:isFn Tryz.prog 219:=⟨_,Tryz.func219,rfl,by kernel_rfl⟩
@[go_sem] theorem ZBE:isFn Tryz.prog 220:=⟨_,Tryz.func220,rfl,by kernel_rfl⟩
@[go_sem] theorem ZBF:isFn Tryz.prog 221:=⟨_,Tryz.func221,rfl,by kernel_rfl⟩
@[go_sem] theorem ZBG:isFn Tryz.prog 222:=⟨_,Tryz.func222,rfl,by kernel_rfl⟩
@[go_sem] theorem ZBH:isFn Tryz.prog 223:=⟨_,Tryz.func223,rfl,by kernel_rfl⟩
@[go_sem] theorem ZBI:isFn Tryz.prog 224:=⟨_,Tryz.func224,rfl,by kernel_rfl⟩
@[go_sem] theorem ZBJ:isFn Tryz.prog 225:=⟨_,Tryz.func225,rfl,by kernel_rfl⟩
@[go_sem] theorem ZBK:isFn Tryz.prog 226:=⟨_,Tryz.func226,rfl,by kernel_rfl⟩
@[go_sem] theorem ZBL:isFn Tryz.prog 227:=⟨_,Tryz.func227,rfl,by kernel_rfl⟩
@[go_sem] theorem ZBM:isFn Tryz.prog 228:=⟨_,Tryz.func228,rfl,by kernel_rfl⟩
@[go_sem] theorem ZBN:isFn Tryz.prog 229:=⟨_,Tryz.func229,rfl,by kernel_rfl⟩
@[go_sem] theorem ZBO:isFn Tryz.prog 230:=⟨_,Tryz.func230,rfl,by kernel_rfl⟩
@[go_sem] theorem ZBP:isFn Tryz.prog 231:=⟨_,Tryz.func231,rfl,by kernel_rfl⟩
@[go_sem] theorem ZBQ:isFn Tryz.prog 232:=⟨_,Tryz.func232,rfl,by kernel_rfl⟩
@[go_sem] theorem ZBR:isFn Tryz.prog 233:=⟨_,Tryz.func233,rfl,by kernel_rfl⟩
@[go_sem] theorem ZBS:isFn Tryz.prog 234:=⟨_,Tryz.func234,rfl,by kernel_rfl⟩
@[go_sem] theorem ZBT:isFn Tryz.prog 235:=⟨_,Tryz.func235,rfl,by kernel_rfl⟩
@[go_sem] theorem ZBU:isFn Tryz.prog 236:=⟨_,Tryz.func236,rfl,by kernel_rfl⟩
@[go_sem] theorem ZBV:isFn Tryz.prog 237:=⟨_,Tryz.func237,rfl,by kernel_rfl⟩
@[go_sem] theorem ZBW:isFn Tryz.prog 238:=⟨_,Tryz.func238,rfl,by kernel_rfl⟩
@[go_sem] theorem ZBX:isFn Tryz.prog 243:=⟨_,Tryz.func243,rfl,by kernel_rfl⟩
@[go_sem] theorem ZBY:isFn Tryz.prog 244:=⟨_,Tryz.func244,rfl,by kernel_rfl⟩
@[go_sem] theorem ZBZ:isFn Tryz.prog 245:=⟨_,Tryz.func245,rfl,by kernel_rfl⟩
@[go_sem] theorem ZB0:isFn Tryz.prog 247:=⟨_,Tryz.func247,rfl,by kernel_rfl⟩
@[go_sem] theorem ZB1:isFn Tryz.prog 248:=⟨_,Tryz.func248,rfl,by kernel_rfl⟩
@[go_sem] theorem ZB2:isFn Tryz.prog 249:=⟨_,Tryz.func249,rfl,by kernel_rfl⟩
@[go_sem] theorem ZB3:isFn Tryz.prog 250:=⟨_,Tryz.func250,rfl,by kernel_rfl⟩
@[go_sem] theorem ZB4:isFn Tryz.prog 251:=⟨_,Tryz.func251,rfl,by kernel_rfl⟩
@[go_sem] theorem ZB5:isFn Tryz.prog 252:=⟨_,Tryz.func252,rfl,by kernel_rfl⟩
@[go_sem] theorem ZB6:isFn Tryz.prog 253:=⟨_,Tryz.func253,rfl,by kernel_rfl⟩
@[go_sem] theorem ZB7:isFn Tryz.prog 255:=⟨_,Tryz.func255,rfl,by kernel_rfl⟩
@[go_sem] theorem ZB8:isFn Tryz.prog 256:=⟨_,Tryz.func256,rfl,by kernel_rfl⟩
@[go_sem] theorem ZB9:isFn Tryz.prog 257:=⟨_,Tryz.func257,rfl,by kernel_rfl⟩
@[go_sem] theorem ZCa:isFn Tryz.prog 258:=⟨_,Tryz.func258,rfl,by kernel_rfl⟩
set_option linter.unusedVariables false
abbrev cInt (x:Int):List PV:=[vi x]
abbrev cStr (x:ByteArray):List PV:=[vs x]
abbrev Zof (x:Bool):List PV:=[vb x]
@[ext] structure Zri where
 service:Int
 serial:Int
 to_:ByteArray
 deriving DecidableEq
abbrev ZjW (x:Zri):List PV:=[vi x.service,vi x.serial,vs x.to_]
@[ext] structure ZlN where
 label:Zri
 from_:ByteArray
 weight:Int
 sides:List Int
 value:Int
 deriving DecidableEq
abbrev ZiN (x:ZlN):List PV:=[vi x.label.service,vi x.label.serial,vs x.label.to_,vs x.from_,vi x.weight,.sl (x.sides.map cInt),vi x.value]
@[ext] structure ZvL where
 first:ByteArray
 last:ByteArray
 deriving DecidableEq
abbrev ZmK (x:ZvL):List PV:=[vs x.first,vs x.last]
@[ext] structure ZvK where
 zone:Int
 service:Int
 limit:Int
 price:Int
 deriving DecidableEq
abbrev ZmJ (x:ZvK):List PV:=[vi x.zone,vi x.service,vi x.limit,vi x.price]
@[ext] structure YLeg where
 from_:ByteArray
 to_:ByteArray
 start:Int
 takes:Int
 days:Int
 room:Int
 deriving DecidableEq
abbrev cLeg (x:YLeg):List PV:=[vs x.from_,vs x.to_,vi x.start,vi x.takes,vi x.days,vi x.room]
@[ext] structure Za where
 legs:List YLeg
 off:List Int
 change:Int
 deriving DecidableEq
abbrev Zr (x:Za):List PV:=[.sl (x.legs.map cLeg),.sl (x.off.map cInt),vi x.change]
@[ext] structure Ze where
 leg:Int
 day:Int
 deriving DecidableEq
abbrev Zs (x:Ze):List PV:=[vi x.leg,vi x.day]
@[ext] structure Zc where
 thing:Int
 trip:Ze
 weight:Int
 deriving DecidableEq
abbrev Zg (x:Zc):List PV:=[vi x.thing,vi x.trip.leg,vi x.trip.day,vi x.weight]
@[ext] structure Zk where
 thing:Int
 at_:Int
 kind:Int
 place:ByteArray
 trip:Ze
 deriving DecidableEq
abbrev ZF (x:Zk):List PV:=[vi x.thing,vi x.at_,vi x.kind,vs x.place,vi x.trip.leg,vi x.trip.day]
@[ext] structure Zf where
 from_:ByteArray
 to_:ByteArray
 service:Int
 weight:Int
 at_:Int
 due:Int
 way:List Ze
 gone:Int
 state:Int
 place:ByteArray
 ended:Int
 deriving DecidableEq
abbrev Zw (x:Zf):List PV:=[vs x.from_,vs x.to_,vi x.service,vi x.weight,vi x.at_,vi x.due,.sl (x.way.map Zs),vi x.gone,vi x.state,vs x.place,vi x.ended]
@[ext] structure Zd where
 network:Za
 orders:List Zf
 bookings:List Zc
 closed:List Ze
 now:Int
 scans:List Zk
 skip:List Int
 made:Int
 deriving DecidableEq
abbrev Zbt (x:Zd):List PV:=[.sl (x.network.legs.map cLeg),.sl (x.network.off.map cInt),vi x.network.change,.sl (x.orders.map Zw),.sl (x.bookings.map Zg),.sl (x.closed.map Zs),vi x.now,.sl (x.scans.map ZF),.sl (x.skip.map cInt),vi x.made]
@[ext] structure ZvJ where
 order:Int
 kind:Int
 amount:Int
 at_:Int
 deriving DecidableEq
abbrev ZmI (x:ZvJ):List PV:=[vi x.order,vi x.kind,vi x.amount,vi x.at_]
@[ext] structure YAct where
 kind:Int
 parcel:ZlN
 order:Int
 amount:Int
 until_:Int
 trip:Ze
 deriving DecidableEq
abbrev cAct (x:YAct):List PV:=[vi x.kind,vi x.parcel.label.service,vi x.parcel.label.serial,vs x.parcel.label.to_,vs x.parcel.from_,vi x.parcel.weight,.sl (x.parcel.sides.map cInt),vi x.parcel.value,vi x.order,vi x.amount,vi x.until_,vi x.trip.leg,vi x.trip.day]
@[ext] structure Zrj where
 world:Zd
 zones:List ZvL
 rates:List ZvK
 percents:List Int
 parcels:List ZlN
 lines:List ZvJ
 journal:List YAct
 deriving DecidableEq
abbrev ZjX (x:Zrj):List PV:=[.sl (x.world.network.legs.map cLeg),.sl (x.world.network.off.map cInt),vi x.world.network.change,.sl (x.world.orders.map Zw),.sl (x.world.bookings.map Zg),.sl (x.world.closed.map Zs),vi x.world.now,.sl (x.world.scans.map ZF),.sl (x.world.skip.map cInt),vi x.world.made,.sl (x.zones.map ZmK),.sl (x.rates.map ZmJ),.sl (x.percents.map cInt),.sl (x.parcels.map ZiN),.sl (x.lines.map ZmI),.sl (x.journal.map cAct)]
@[ext] structure Zrh where
 id:Int
 dest:Int
 deriving DecidableEq
abbrev ZkU (x:Zrh):List PV:=[vi x.id,vi x.dest]
@[ext] structure Zrf where
 cell:Int
 room:Int
 held:List Zrh
 deriving DecidableEq
abbrev Zlh (x:Zrf):List PV:=[vi x.cell,vi x.room,.sl (x.held.map ZkU)]
@[ext] structure Zrg where
 cell:Int
 wait:List Zrh
 deriving DecidableEq
abbrev Zli (x:Zrg):List PV:=[vi x.cell,.sl (x.wait.map ZkU)]
@[ext] structure Zre where
 belt:List Zrh
 chutes:List Zrf
 inlets:List Zrg
 plan:List Int
 now:Int
 deriving DecidableEq
abbrev ZjV (x:Zre):List PV:=[.sl (x.belt.map ZkU),.sl (x.chutes.map Zlh),.sl (x.inlets.map Zli),.sl (x.plan.map cInt),vi x.now]
@[ext] structure Zva where
 id:Int
 own:Int
 room:Int
 in_:Int
 box:Bool
 sealed:Bool
 deriving DecidableEq
abbrev ZjY (x:Zva):List PV:=[vi x.id,vi x.own,vi x.room,vi x.in_,vb x.box,vb x.sealed]
@[ext] structure ZjL where
 places:List ByteArray
 rides:List Ze
 deriving DecidableEq
abbrev ZjU (x:ZjL):List PV:=[.sl (x.places.map cStr),.sl (x.rides.map Zs)]
set_option linter.unusedSimpArgs false
/-! What the rewriting need not go into. -/
@[congr] theorem Zza {P:Program} {ops:Array Oper} {K:List PV→Mem→Prop} {rest:List Oper} {t:List PV} {t':List PV} {m:Mem} {m':Mem} (h_t:t=t') (h_m:m=m'):pops P ops K rest t m=pops P ops K rest t' m':=by subst h_t h_m; rfl
@[congr] theorem ZyR {P:Program} {wd:Nat} {base:Nat} {fl:List Nat} {ops:Array Oper} {KD:List LE→List PV→Mem→Prop} {i:Nat} {rest:List Oper} {g:List LE} {g':List LE} {t:List PV} {t':List PV} {m:Mem} {m':Mem} (h_t:t=t') (h_m:m=m') (h_g:g=g'):Zfa P wd base fl ops KD i rest g t m=Zfa P wd base fl ops KD i rest g' t' m':=by subst h_t h_m h_g; rfl
@[congr] theorem ZzA {P:Program} {ops:Array Oper} {K:List PV→Mem→Prop} {rest:List Oper} {t:List PV} {t':List PV} {d:Option Tmp} {p:PV} {p':PV} {m:Mem} {m':Mem} (h_t:t=t') (h_p:p=p') (h_m:m=m'):nxt P ops K rest t d p m=nxt P ops K rest t' d p' m':=by subst h_t h_p h_m; rfl
@[congr] theorem Zzy {P:Program} {wd:Nat} {base:Nat} {fl:List Nat} {ops:Array Oper} {KD:List LE→List PV→Mem→Prop} {i:Nat} {rest:List Oper} {g:List LE} {g':List LE} {t:List PV} {t':List PV} {d:Option Tmp} {p:PV} {p':PV} {m:Mem} {m':Mem} (h_t:t=t') (h_p:p=p') (h_m:m=m') (h_g:g=g'):nxd P wd base fl ops KD i rest g t d p m=nxd P wd base fl ops KD i rest g' t' d p' m':=by subst h_t h_p h_m h_g; rfl
@[congr] theorem ZzI {P:Program} {ops:Array Oper} {K:List PV→Mem→Prop} {rest:List Oper} {d:Option Tmp} {o:Op} {m:Mem} {m':Mem} {t:List PV} {t':List PV} (h_m:m=m') (h_t:t=t'):rgo P ops K rest d o m t=rgo P ops K rest d o m' t':=by subst h_m h_t; rfl
@[congr] theorem ZzE {P:Program} {ops:Array Oper} {K:List PV→Mem→Prop} {rest:List Oper} {d:Option Tmp} {m:Mem} {m':Mem} {t:List PV} {t':List PV} (h_m:m=m') (h_t:t=t'):pgo P ops K rest d m t=pgo P ops K rest d m' t':=by subst h_m h_t; rfl
@[congr] theorem ZzH {P:Program} {wd:Nat} {base:Nat} {fl:List Nat} {ops:Array Oper} {KD:List LE→List PV→Mem→Prop} {i:Nat} {rest:List Oper} {g:List LE} {oo:Oper} {m:Mem} {m':Mem} {t:List PV} {t':List PV} (h_m:m=m') (h_t:t=t'):rge P wd base fl ops KD i rest g oo m t=rge P wd base fl ops KD i rest g oo m' t':=by subst h_m h_t; rfl
@[congr] theorem Zzz {P:Program} {wd:Nat} {base:Nat} {fl:List Nat} {ops:Array Oper} {KD:List LE→List PV→Mem→Prop} {i:Nat} {rest:List Oper} {g:List LE} {oo:Oper} {ν ν':Nat} {t t':List PV} {ρ:List Nat} {p p':PV} {m m':Mem} (h_t:t=t') (h_p:p=p') (h_m:m=m') (h_n:ν=ν'):nxe P wd base fl ops KD i rest g oo ν t ρ p m=nxe P wd base fl ops KD i rest g oo ν' t' ρ p' m':=by subst h_t h_p h_m h_n; rfl
@[congr] theorem Zy9 {P:Program} {wd ν ν':Nat} {o:Op} {t t':List PV} {m m':Mem} {K:List Nat→PV→Mem→Prop} (h_n:ν=ν') (h_t:t=t') (h_m:m=m'):popI P wd ν o t m K=popI P wd ν' o t' m' K:=by subst h_n h_t h_m; rfl
@[congr] theorem ZzB {P:Program} {wd ν ν':Nat} {f:FuncId} {ps ps':List PV} {m m':Mem} {K:List Nat→PV→Mem→Prop} (h_n:ν=ν') (h_p:ps=ps') (h_m:m=m'):pIO P wd ν f ps m K=pIO P wd ν' f ps' m' K:=by subst h_n h_p h_m; rfl
@[congr] theorem ZzG {P:Program} {wd:Nat} {base:Nat} {fl:List Nat} {ops:Array Oper} {KD:List LE→List PV→Mem→Prop} {i:Nat} {rest:List Oper} {g:List LE} {oo:Oper} {m:Mem} {m':Mem} {t:List PV} {t':List PV} (h_m:m=m') (h_t:t=t'):rgd P wd base fl ops KD i rest g oo m t=rgd P wd base fl ops KD i rest g oo m' t':=by subst h_m h_t; rfl
@[congr] theorem ZzD {P:Program} {wd:Nat} {base:Nat} {fl:List Nat} {ops:Array Oper} {KD:List LE→List PV→Mem→Prop} {i:Nat} {rest:List Oper} {g:List LE} {oo:Oper} {m:Mem} {m':Mem} {t:List PV} {t':List PV} (h_m:m=m') (h_t:t=t'):pgd P wd base fl ops KD i rest g oo m t=pgd P wd base fl ops KD i rest g oo m' t':=by subst h_m h_t; rfl
@[congr] theorem ZyM {b:Bool} {b':Bool} {y:List PV→Prop} {n:List PV→Prop} {t:List PV} {t':List PV} {i:Nat} (h_b:b=b') (h_t:t=t'):ZiQ b y n t i=ZiQ b' y n t' i:=by subst h_b h_t; rfl
@[congr] theorem Zzx {p:PV} {p':PV} {i:Nat} {t:List PV} {t':List PV} {b:Bool} {y:List PV→Prop} {n:List PV→Prop} (h_p:p=p') (h_t:t=t'):gdV p i t b y n=gdV p' i t' b y n:=by subst h_p h_t; rfl
@[congr] theorem ZzJ {d:Option Tmp} {t:List PV} {t':List PV} {b:Bool} {y:List PV→Prop} {n:List PV→Prop} (h_t:t=t'):gd d t b y n=gd d t' b y n:=by subst h_t; rfl
@[congr] theorem ZyO {P:Program} {T:TypeId} {cs:Option (List PV)} {cs':Option (List PV)} {K:PV→Prop} (h_cs:cs=cs'):ZhQ P T cs K=ZhQ P T cs' K:=by subst h_cs; rfl
@[congr] theorem Zy2 {P:Program} {op:BinOp} {T:TypeId} {x:PV} {x':PV} {y:PV} {y':PV} {K:PV→Prop} (h_x:x=x') (h_y:y=y'):pBin P op T x y K=pBin P op T x' y' K:=by subst h_x h_y; rfl
@[congr] theorem ZzC {op:UnOp} {x:PV} {x':PV} {K:PV→Prop} (h_x:x=x'):pUn op x K=pUn op x' K:=by subst h_x; rfl
@[congr] theorem ZxM {P:Program} {m:Mem} {m':Mem} {T:TypeId} {U:TypeId} {x:PV} {x':PV} {K:PV→Prop} (h_m:m=m') (h_x:x=x'):Zhr P m T U x K=Zhr P m' T U x' K:=by subst h_m h_x; rfl
@[congr] theorem ZxP {P:Program} {m:Mem} {m':Mem} {T:TypeId} {x:PV} {x':PV} {lo:Option PV} {lo':Option PV} {hi:Option PV} {hi':Option PV} {K:PV→Prop} (h_m:m=m') (h_x:x=x') (h_lo:lo=lo') (h_hi:hi=hi'):ZeK P m T x lo hi K=ZeK P m' T x' lo' hi' K:=by subst h_m h_x h_lo h_hi; rfl
@[congr] theorem ZtX {P:Program} {m:Mem} {m':Mem} {T:TypeId} {x:PV} {x':PV} {i:Nat} {K:PV→Prop} (h_m:m=m') (h_x:x=x'):ZdS P m T x i K=ZdS P m' T x' i K:=by subst h_m h_x; rfl
@[congr] theorem ZxN {P:Program} {T:TypeId} {x:PV} {x':PV} {i:Nat} {K:PV→Prop} (h_x:x=x'):Zjc P T x i K=Zjc P T x' i K:=by subst h_x; rfl
@[congr] theorem ZtY {P:Program} {m:Mem} {m':Mem} {T:TypeId} {x:PV} {x':PV} {y:PV} {y':PV} {K:PV→Prop} (h_m:m=m') (h_x:x=x') (h_y:y=y'):Zaw P m T x y K=Zaw P m' T x' y' K:=by subst h_m h_x h_y; rfl
@[congr] theorem ZxO {P:Program} {T:TypeId} {x:PV} {x':PV} {y:PV} {y':PV} {K:PV→Prop} (h_x:x=x') (h_y:y=y'):Zhs P T x y K=Zhs P T x' y' K:=by subst h_x h_y; rfl
@[congr] theorem Zy5 {i:Nat} {x:PV} {x':PV} {K:PV→Prop} (h_x:x=x'):pExt i x K=pExt i x' K:=by subst h_x; rfl
@[congr] theorem ZxL {P:Program} {T:TypeId} {ps:List (Nat × PV)} {ps':List (Nat × PV)} {K:PV→Prop} (h_ps:ps=ps'):Zjb P T ps K=Zjb P T ps' K:=by subst h_ps; rfl
@[congr] theorem Zy6 {P:Program} {m:Mem} {m':Mem} {T:TypeId} {x:PV} {x':PV} {K:PV→Prop} (h_m:m=m') (h_x:x=x'):pLen P m T x K=pLen P m' T x' K:=by subst h_m h_x; rfl
@[congr] theorem Zxx {b:Bool} {ps:List PV} {ps':List PV} {K:PV→Prop} (h_ps:ps=ps'):Zgo b ps K=Zgo b ps' K:=by subst h_ps; rfl
@[congr] theorem Zy1 {ov:Option Value} {ov':Option Value} {K:PV→Prop} (h_ov:ov=ov'):optK ov K=optK ov' K:=by subst h_ov; rfl
@[congr] theorem Zzw {P:Program} {op:BinOp} {T:TypeId} {cs:List PV} {cs':List PV} {ds:List PV} {ds':List PV} {K:PV→Prop} (h_cs:cs=cs') (h_ds:ds=ds'):eqK P op T cs ds K=eqK P op T cs' ds' K:=by subst h_cs h_ds; rfl
@[congr] theorem Zy7 {m:Mem} {m':Mem} {x:PV} {x':PV} {K:PV→Prop} (h_m:m=m') (h_x:x=x'):pNil m x K=pNil m' x' K:=by subst h_m h_x; rfl
@[congr] theorem ZyQ {x:PV} {x':PV} {y:PV} {y':PV} {z:PV} {z':PV} {K:PV→Prop} (h_x:x=x') (h_y:y=y') (h_z:z=z'):ZqA x y z K=ZqA x' y' z' K:=by subst h_x h_y h_z; rfl
@[congr] theorem ZyN {P:Program} {io:Bool} {wd:Nat} {nu:Nat} {nu':Nat} {f:FuncId} {ps:List PV} {ps':List PV} {m:Mem} {m':Mem} {KA:PV→Mem→Prop} (h_ps:ps=ps') (h_m:m=m') (h_nu:nu=nu'):ZgO P io wd nu f ps m KA=ZgO P io wd nu' f ps' m' KA:=by subst h_ps h_m h_nu; rfl
@[congr] theorem Zy3 {nu:Nat} {nu':Nat} {m:Mem} {m':Mem} {T:TypeId} {ocs:Option (List PV)} {ocs':Option (List PV)} {KA:PV→Mem→Prop} (h_nu:nu=nu') (h_m:m=m') (h_ocs:ocs=ocs'):pBox nu m T ocs KA=pBox nu' m' T ocs' KA:=by subst h_nu h_m h_ocs; rfl
@[congr] theorem ZtJ {P:Program} {nu:Nat} {nu':Nat} {m:Mem} {m':Mem} {T:TypeId} {k:Nat} {ps:List (Nat × PV)} {ps':List (Nat × PV)} {KA:PV→Mem→Prop} (h_nu:nu=nu') (h_m:m=m') (h_ps:ps=ps'):ZeJ P nu m T k ps KA=ZeJ P nu' m' T k ps' KA:=by subst h_nu h_m h_ps; rfl
@[congr] theorem ZyP {P:Program} {nu:Nat} {nu':Nat} {m:Mem} {m':Mem} {T:TypeId} {x:PV} {x':PV} {y:PV} {y':PV} {KA:PV→Mem→Prop} (h_nu:nu=nu') (h_m:m=m') (h_x:x=x') (h_y:y=y'):ZkA P nu m T x y KA=ZkA P nu' m' T x' y' KA:=by subst h_nu h_m h_x h_y; rfl
@[congr] theorem ZxQ {P:Program} {m:Mem} {m':Mem} {T:TypeId} {x:PV} {x':PV} {y:PV} {y':PV} {KA:PV→Mem→Prop} (h_m:m=m') (h_x:x=x') (h_y:y=y'):Zjd P m T x y KA=Zjd P m' T x' y' KA:=by subst h_m h_x h_y; rfl
@[congr] theorem Zxw {P:Program} {nu:Nat} {nu':Nat} {m:Mem} {m':Mem} {T:TypeId} {x:PV} {x':PV} {y:PV} {y':PV} {KA:PV→Mem→Prop} (h_nu:nu=nu') (h_m:m=m') (h_x:x=x') (h_y:y=y'):Zeq P nu m T x y KA=Zeq P nu' m' T x' y' KA:=by subst h_nu h_m h_x h_y; rfl
@[congr] theorem Zy4 {P:Program} {io:Bool} {wd:Nat} {nu:Nat} {nu':Nat} {p:PV} {p':PV} {ps:List PV} {ps':List PV} {m:Mem} {m':Mem} {KA:PV→Mem→Prop} (h_nu:nu=nu') (h_p:p=p') (h_ps:ps=ps') (h_m:m=m'):pDyn P io wd nu p ps m KA=pDyn P io wd nu' p' ps' m' KA:=by subst h_nu h_p h_ps h_m; rfl
@[congr] theorem Zy8 {P:Program} {io:Bool} {wd:Nat} {nu:Nat} {nu':Nat} {o:Op} {t:List PV} {t':List PV} {m:Mem} {m':Mem} {KA:PV→Mem→Prop} (h_nu:nu=nu') (h_t:t=t') (h_m:m=m'):popA P io wd nu o t m KA=popA P io wd nu' o t' m' KA:=by subst h_nu h_t h_m; rfl
@[congr] theorem Zy0 {ops2:List Oper} {K:List PV→Mem→Prop} {g:List LE} {t:List PV} {t':List PV} {m:Mem} {m':Mem} (h_t:t=t') (h_m:m=m'):endD ops2 K g t m=endD ops2 K g t' m':=by subst h_t h_m; rfl
@[congr] theorem ZzF {P:Program} {n0:Nat} {code:Code} {Q:Exit→List PV→Mem→Prop} {t:List PV} {t':List PV} {m:Mem} {m':Mem} (h_t:t=t') (h_m:m=m'):pwp P n0 code Q t m=pwp P n0 code Q t' m':=by subst h_t h_m; rfl
@[congr] theorem ZyS {K:List PV→Mem→Prop} {Q:Exit→List PV→Mem→Prop} {e:Exit} {e':Exit} {t:List PV} {t':List PV} {m:Mem} {m':Mem} (h_t:t=t') (h_m:m=m') (h_e:e=e'):Zhw K Q e t m=Zhw K Q e' t' m':=by subst h_t h_m h_e; rfl
@[congr] theorem ZxK {id:Nat} {Q:Exit→List PV→Mem→Prop} {e:Exit} {e':Exit} {t:List PV} {t':List PV} {m:Mem} {m':Mem} (h_t:t=t') (h_m:m=m') (h_e:e=e'):Zi6 id Q e t m=Zi6 id Q e' t' m':=by subst h_t h_m h_e; rfl
class ZcJ (α:Type) where
 c:α→List PV
instance:ZcJ Int:=⟨cInt⟩
instance:ZcJ ByteArray:=⟨cStr⟩
instance:ZcJ Bool:=⟨Zof⟩
section
variable {P:Program} {n0:Nat} {Q:Exit→List PV→Mem→Prop} {t t':List PV} {m m':Mem} {K:List PV→Mem→Prop} {KR:PV→Prop} {KA:PV→Mem→Prop}
theorem HexL {σ ο β:Type} {s:σ} {F:σ→Option β} {K:ο→Option β} {r:β} (h:(some (Sum.inl s)).bind (ZY F K)=some r):F s=some r:=h
theorem bexR {σ ο β:Type} {o:ο} {F:σ→Option β} {K:ο→Option β}:(some (Sum.inr o)).bind (ZY F K)=K o:=nrfl rfl
theorem bsr {α β γ δ:Type} {o:β} {F:α→Option γ} {G:β→Option γ} {K:γ→Option δ}:(ZY F G (Sum.inr o)).bind K=(G o).bind K:=nrfl rfl
theorem bsl {α β γ δ:Type} {o:α} {F:α→Option γ} {G:β→Option γ} {K:γ→Option δ}:(ZY F G (Sum.inl o)).bind K=(F o).bind K:=nrfl rfl
theorem Hc1k {α β:Type} {G:Prop} {b:Bool} {A B:Option α} {K:α→Option β} {r:β} (h:(cond b A B).bind K=some r) (hb:b=true) (k:A.bind K=some r→G):G:=k (Hc1 h hb)
theorem Hc2k {α β:Type} {G:Prop} {b:Bool} {A B:Option α} {K:α→Option β} {r:β} (h:(cond b A B).bind K=some r) (hb:b=false) (k:B.bind K=some r→G):G:=k (Hc2 h hb)
theorem Zzd {c:Bool} {y n:List PV→Prop} {i:Nat} (h:ZiQ c y n t i):ZiQ c y n t i:=h
theorem idxS {T:TypeId} {es:List (List PV)} {i:PV} (h:Zaw P m T (.sl es) i KR):Zaw P m T (.sl es) i KR:=h
def mkOk (n bytes:Int):Bool:=decide (0≤n∧n≤1099511627776∧bytes*n≤140737488355328)
theorem mkS {T:TypeId} {ν:Nat} {x y:PV} (h:ZkA P ν m T x y KA):ZkA P ν m T x y KA:=h
theorem Zyp {T e k ν:Nat} {n b:Int} {zc:List PV} (hok:mkOk n b=true) (hu:P.underlying T=some (.slice e)) (hz:pz P e=some zc) (hb:(P.bytesOf e:Int)=b) (hc:P.cellsOf e=k) (hzl:zc.length=k) (hp:decide (0<k)=true) (hK:KA (.ms ν) (mput m ν ⟨e,k,List.replicate n.toNat zc⟩)):ZkA P ν m T (vi n) (vi n) KA:=by
 subst hb hc
 have hok':=of_decide_eq_true hok
 simp only [ZkA,hu,hz]
 exact ⟨trivial,hok'.1,of_decide_eq_true hp,hzl,hok'.2.1,hok'.2.2,hK⟩
theorem Zij {ρ:Nat→Option Nat}:∀ {cs:List PV},(∀ q∈cs,isC q=true)→cutL ρ m m' cs cs
 | [],_=>trivial
 | c::cs,h=>⟨.c c (h c List.mem_cons_self),Zij fun q hq=>h q (List.mem_cons_of_mem _ hq)⟩
theorem Zpf {α:Type} {f:α→List PV} [hf:Zbi f] {ρ:Nat→Option Nat}:∀ {xs:List α},cutE ρ m m' (xs.map f) (xs.map f)
 | []=>trivial
 | x::xs=>⟨Zij (hf.h x),Zpf⟩
theorem Zph {α:Type} {f:α→List PV} [hf:Zbi f] {ρ:Nat→Option Nat} {cs:List PV} {x:α} (h:cutL ρ m m' cs (f x)):∀ {xs:List α} {n:Nat},cutE ρ m m' ((xs.map f).set n cs) ((xs.set n x).map f)
 | [],_=>trivial
 | y::ys,0=>⟨h,Zpf⟩
 | y::ys,n+1=>⟨Zij (hf.h y),Zph h⟩
theorem Zpg {α:Type} {f:α→List PV} {ρ:Nat→Option Nat} {cs:List PV} {x:α} (h:cutL ρ m m' cs (f x)):∀ {n:Nat},cutE ρ m m' (List.replicate n cs) ((List.replicate n x).map f)
 | 0=>trivial
 | n+1=>⟨h,Zpg h⟩
theorem ZmU {α:Type} {f:α→List PV} [hf:Zbi f] {ρ:Nat→Option Nat} {cs:List PV} {x:α} (h:cutL ρ m m' cs (f x)):∀ {xs:List α},cutE ρ m m' (xs.map f++[cs]) ((xs++[x]).map f)
 | []=>⟨h,trivial⟩
 | y::ys=>⟨Zij (hf.h y),ZmU h⟩
theorem Zpd {α:Type} {f:α→List PV} [Zbi f] {ρ:Nat→Option Nat} {T k n:Nat} {cs:List PV} {x:α} {xs:List α} (h:cutL ρ m m' cs (f x)):cutB ρ m m' ⟨T,k,(xs.map f).set n cs⟩ ⟨T,k,(xs.set n x).map f⟩:=⟨rfl,rfl,.inr (Zph h)⟩
theorem Zt3 {α:Type} {f:α→List PV} {ρ:Nat→Option Nat} {T k n:Nat} {cs:List PV} {x:α} (h:cutL ρ m m' cs (f x)):cutB ρ m m' ⟨T,k,List.replicate n cs⟩ ⟨T,k,(List.replicate n x).map f⟩:=⟨rfl,rfl,.inr (Zpg h)⟩
theorem Zvf {ρ:Nat→Option Nat} {T k:Nat} {es es':List (List PV)} (h:cutE ρ m m' es es'):cutB ρ m m' ⟨T,k,es⟩ ⟨T,k,es'⟩:=⟨rfl,rfl,.inr h⟩
theorem ZxT {ρ:Nat→Option Nat}:cutE ρ m m' [] []:=trivial
theorem ZxS {ρ:Nat→Option Nat} {cs ds:List PV} {es es':List (List PV)} (h:cutL ρ m m' cs ds) (h':cutE ρ m m' es es'):cutE ρ m m' (cs::es) (ds::es'):=⟨h,h'⟩
theorem Zt1 {ρ:Nat→Option Nat} {T k:Nat}:cutB ρ m m' ⟨T,k,[]⟩ ⟨T,k,[]⟩:=Zvf trivial
theorem Zt4 {ρ:Nat→Option Nat} {T k:Nat} {a b c d:List PV} {es es':List (List PV)} (h:cutE ρ m m' (a::b::es) (c::d::es')):cutB ρ m m' ⟨T,k,a::b::es⟩ ⟨T,k,c::d::es'⟩:=Zvf h
theorem ZrF {α:Type} {f:α→List PV} [Zbi f] {ρ:Nat→Option Nat} {T k:Nat} {cs:List PV} {x:α} {xs:List α} (h:cutL ρ m m' cs (f x)):cutB ρ m m' ⟨T,k,xs.map f++[cs]⟩ ⟨T,k,(xs++[x]).map f⟩:=⟨rfl,rfl,.inr (ZmU h)⟩
theorem idxM {T:TypeId} {l:Nat} {i:PV} (h:Zaw P m T (.ms l) i KR):Zaw P m T (.ms l) i KR:=h
theorem Zwj {α:Type} [ZcJ α] {xs:List α} {x:α} {T T':TypeId} {l k':Nat} {i:Int} {k:IntKind} (h:getI xs i=some x) (hm:look m l=some ⟨T',k',xs.map ZcJ.c⟩) (hp:0<Zfp P T) (hk:k'=Zfp P T) (hK:KR (.be l i.toNat 0)):Zaw P m T (.ms l) (.v (.int k i)) KR:=Zyi h hm hp hk hK
theorem Zm2 {α:Type} {f:α→List PV} {xs:List α} {x:α} {i:Int} (h:getI xs i=some x):(xs.map f)[i.toNat]?=some (f x):=by
 rw [List.getElem?_map,(Zdb h).2]; rfl
theorem Zth {α:Type} [ZcJ α] {xs:List α} {T T':TypeId} {r k:Nat} {lo hi:Option PV} {l h:Int} (hok:slOk l h xs.length=true) (hm:look m r=some ⟨T',k,xs.map ZcJ.c⟩) (hlo:pBd lo 0=some l) (hhi:pBd hi xs.length=some h) (hp:0<Zfp P T) (hk:k=Zfp P T) (hK:KR (.ss r l.toNat h.toNat)):ZeK P m T (.ms r) lo hi KR:=by
 obtain ⟨e,hu,he⟩:=Zil hp
 rw [he] at hp hk
 have hok':=of_decide_eq_true hok
 simp only [ZeK,hu,Zgm,hm,List.length_map,hlo,hhi]
 exact ⟨hok'.1,hok'.2.1,hok'.2.2,hp,hk,hK⟩
theorem ZyG {α:Type} [ZcJ α] {xs:List α} {T':TypeId} {r k:Nat} {a b:Int} (hm:look m r=some ⟨T',k,xs.map ZcJ.c⟩):Zhb m (.ss r a.toNat b.toNat)=some ((subL xs a b).map ZcJ.c):=by
 have h:=ZeN.1 hm
 simp only [Zhb,h,Zh3,Zib,subL]
theorem Ztk {α:Type} [ZcJ α] {xs:List α} {T':TypeId} {r k A B:Nat} {a b:Int} (hm:look m r=some ⟨T',k,xs.map ZcJ.c⟩) (hA:A=a.toNat) (hB:B=b.toNat):Zhb m (.ss r A B)=some ((subL xs a b).map ZcJ.c):=by subst hA hB; exact ZyG hm
theorem Zya {cs:List PV} (h:cs.all isC=true):ZgY false (.ag cs):=fun c hc=>ZhC (List.all_eq_true.1 h c hc)
theorem Zyb {cs:List PV} (h:cs.all isF=true):ZgY true (.ag cs):=fun c hc=>Zpp (List.all_eq_true.1 h c hc)
theorem Zyc {ps:List PV} (h:ps.all isCA=true):ZgY false (.tu ps):=fun c hc=>(Zjw (σ:=id) (List.all_eq_true.1 h c hc)).2.1
theorem idxB {T:TypeId} {s:ByteArray} {i:PV} (h:Zhs P T (.v (.string s)) i KR):Zhs P T (.v (.string s)) i KR:=h
theorem slcS {T:TypeId} {x:PV} {lo hi:Option PV} (h:ZeK P m T x lo hi KR):ZeK P m T x lo hi KR:=h
theorem appS {T:TypeId} {ν:Nat} {x y:PV} (h:Zeq P ν m T x y KA):Zeq P ν m T x y KA:=h
theorem ZyZ {f:FuncId} {ps:List PV} {io:Bool} {wd ν:Nat} (h:ZgO P io wd ν f ps m KA):ZgO P io wd ν f ps m KA:=h
theorem optS {o:Option Value} (h:optK o KR):optK o KR:=h
theorem Zze {c:Code} (h:pwp P n0 (.loop c) Q t m):pwp P n0 (.loop c) Q t m:=h
theorem cutS (h:Cuts n0 t m t' m'):Cuts n0 t m t' m':=h
theorem Zn8 {α:Type} {p:α→Prop}:(∀ x∈([]:List α),p x)=True:=by simp
theorem ZlO {α:Type} {p:α→Prop} {a:α} {as_:List α}:(∀ x∈a::as_,p x)=(p a∧∀ x∈as_,p x):=by simp
theorem Zyy {cs:List PV}:rdp m (.rp cs)=some cs:=nrfl rfl
theorem ZvO {α:Type} [ZcJ α] {xs ys:List α} {T:TypeId} {ν l e k n b:Nat} {x:PV} {zc:List PV} (hok:ZQ (xs.length+ys.length) b=true) (hu:P.underlying T=some (.slice e)) (hz:pz P e=some zc) (hb:P.bytesOf e=b) (hc:P.cellsOf e=n) (hl:look m l=some ⟨e,k,xs.map ZcJ.c⟩) (hsrc:Zhb m x=some (ys.map ZcJ.c))
 (hzl:zc.length=n) (hp:decide (0<n)=true) (hf:∀ x:α,(ZcJ.c x).length=n) (hk:k=n) (hK:KA (.ms ν) (mput (m.set l none) ν ⟨e,k,(xs++ys).map ZcJ.c⟩)):Zeq P ν m T (.ms l) x KA:=by
 subst hb hc
 exact ZxG hok hu hz hsrc hl hzl (of_decide_eq_true hp) hf hk hK
theorem ZvP {α:Type} [ZcJ α] {ys:List α} {T:TypeId} {ν e n b:Nat} {x:PV} {zc:List PV} (hok:ZQ ys.length b=true) (hu:P.underlying T=some (.slice e)) (hz:pz P e=some zc) (hb:P.bytesOf e=b) (hc:P.cellsOf e=n) (hsrc:Zhb m x=some (ys.map ZcJ.c))
 (hzl:zc.length=n) (hp:decide (0<n)=true) (hf:∀ x:α,(ZcJ.c x).length=n) (hK:KA (.ms ν) (mput m ν ⟨e,n,ys.map ZcJ.c⟩)):Zeq P ν m T (.v (.slice none 0 0)) x KA:=by
 subst hb hc
 exact ZxH hok hu hz hsrc hzl (of_decide_eq_true hp) hf hK
theorem Zr5 {b:Bool}:∀ mb,some mb∈([]:Mem)→∀ cs∈mb.es,∀ p∈cs,Zcw b p:=by intro mb h; cases h
theorem Zlu {α:Type} {f:α→List PV} [Zbi f] {T k:Nat} {xs:List α}:∀ mb,some mb∈([some ⟨T,k,xs.map f⟩]:Mem)→∀ cs∈mb.es,∀ p∈cs,Zcw false p:=by
 intro mb h
 simp only [List.mem_singleton,Option.some.injEq] at h
 subst h
 exact of_eq_true ZrZ
theorem Zl3 {α:Type} {f:α→List PV} [ZhN f] {T k:Nat} {xs:List α}:∀ mb,some mb∈([some ⟨T,k,xs.map f⟩]:Mem)→∀ cs∈mb.es,∀ p∈cs,Zcw true p:=by
 intro mb h
 simp only [List.mem_singleton,Option.some.injEq] at h
 subst h
 exact of_eq_true Zr0
theorem hm_c {x:Option MB} {m:Mem} {b:Bool} (h1:∀ mb,some mb∈([x]:Mem)→∀ cs∈mb.es,∀ p∈cs,Zcw b p) (h2:∀ mb,some mb∈m→∀ cs∈mb.es,∀ p∈cs,Zcw b p):∀ mb,some mb∈(x::m)→∀ cs∈mb.es,∀ p∈cs,Zcw b p:=by
 intro mb h
 rcases List.mem_cons.1 h with h | h
 ·exact h1 mb (by simp [h])
 ·exact h2 mb h
end
attribute [go_sem] U_z U_s Zyy Zzo Zzn Zvo Zvn Zzk Zzj Zzi Zsv Zrs Zw0 ZwP Zui Zuh ZuH ZwR ZwQ Zst ZsI ZuG ZuF ZwY ZwZ Zsu Zun Zsb ZsH ZwO Zwf Zwe Zye Zyd Zyf ZsN ZsM ZrR Zv9 Zpm Zwb Zx7 Zwa Zuf ZsE ZoK ZwG ZwF ZsF ZsD Zmg ZqC ZsG Znq ZqH ZkW ZqE ZkX ZqF Znr ZqD Zmf ZuB ZuD ZuC ZqB Zuz ZkC ZkY ZqI ZoJ ZsC ZuA Zsw Zyx ZpD ZpC Zyr Zyq Zwu Zwv Zyt Zys ZyF ZyD ZyE Zyw Zyv Zxg Zxi Zxh Znx ZsX ZqM ZjC Zir Zh3 Zib pBin binV pUn ZdS Zjc pExt pLen Zgo ZhQ aggd pBox pc Zjd pNil Zgw Zf4 ZlJ ZnR ZjS Zlc Option.bind_some List.length_map if_true if_false Bool.false_eq_true List.map_cons List.map_nil List.toList_toArray beq_self_eq_true ite_self Int.toNat_natCast true_and and_true List.length_nil List.nil_append List.append_nil Nat.zero_add List.drop_zero List.drop_succ_cons List.take_zero List.take_succ_cons List.length_cons List.cons_append Option.map_some List.replicate_zero Bool.not_true Bool.not_false renV renA renC ren1 ZdU Zgb ZqA ZoA Zhr pBd Option.map_none Zjb ZkV ZeJ ZiO Zk3 ZlO Zn8 Nat.zero_lt_succ Nat.lt_add_one and_self
instance:Zbi cInt:=⟨fun x q h=>by simp only [cInt,List.mem_singleton] at h; subst h; rfl⟩
instance:ZhN cInt:=⟨fun x q h=>by simp only [cInt,List.mem_singleton] at h; subst h; rfl⟩
instance:Zbi cStr:=⟨fun x q h=>by simp only [cStr,List.mem_singleton] at h; subst h; rfl⟩
instance:ZhN cStr:=⟨fun x q h=>by simp only [cStr,List.mem_singleton] at h; subst h; rfl⟩
instance:Zbi Zof:=⟨fun x q h=>by simp only [Zof,List.mem_singleton] at h; subst h; rfl⟩
instance:ZhN Zof:=⟨fun x q h=>by simp only [Zof,List.mem_singleton] at h; subst h; rfl⟩
structure YB8 where
 v:Int
deriving DecidableEq
def cB8 (x:YB8):List PV:=[v8 x.v]
instance:ZcJ YB8:=⟨cB8⟩
instance:Zbi cB8:=⟨fun x q h=>by simp only [cB8,List.mem_singleton] at h; subst h; rfl⟩
instance:ZhN cB8:=⟨fun x q h=>by simp only [cB8,List.mem_singleton] at h; subst h; rfl⟩
structure ZA where
 b:List YB8
 i:Int
 h:Int
deriving DecidableEq
def ZmP (x:ZA):List PV:=[.sl (x.b.map cB8),vi x.i,vi x.h]
instance:ZcJ ZA:=⟨ZmP⟩
instance:Zbi ZmP:=⟨fun x q h=>by simp only [ZmP,List.mem_cons,List.not_mem_nil,or_false] at h; (repeat' (first | (rcases h with rfl | h; rfl) | (subst h; rfl)))⟩
instance:ZcJ Zri:=⟨ZjW⟩
instance:Zbi ZjW:=⟨fun x q h=>by simp only [ZjW,List.mem_cons,List.not_mem_nil,or_false] at h; (repeat' (first | (rcases h with rfl | h; rfl) | (subst h; rfl)))⟩
instance:ZhN ZjW:=⟨fun x q h=>by simp only [ZjW,List.mem_cons,List.not_mem_nil,or_false] at h; (repeat' (first | (rcases h with rfl | h; rfl) | (subst h; rfl)))⟩
instance:ZcJ ZlN:=⟨ZiN⟩
instance:Zbi ZiN:=⟨fun x q h=>by simp only [ZiN,List.mem_cons,List.not_mem_nil,or_false] at h; (repeat' (first | (rcases h with rfl | h; rfl) | (subst h; rfl)))⟩
instance:ZcJ ZvL:=⟨ZmK⟩
instance:Zbi ZmK:=⟨fun x q h=>by simp only [ZmK,List.mem_cons,List.not_mem_nil,or_false] at h; (repeat' (first | (rcases h with rfl | h; rfl) | (subst h; rfl)))⟩
instance:ZhN ZmK:=⟨fun x q h=>by simp only [ZmK,List.mem_cons,List.not_mem_nil,or_false] at h; (repeat' (first | (rcases h with rfl | h; rfl) | (subst h; rfl)))⟩
instance:ZcJ ZvK:=⟨ZmJ⟩
instance:Zbi ZmJ:=⟨fun x q h=>by simp only [ZmJ,List.mem_cons,List.not_mem_nil,or_false] at h; (repeat' (first | (rcases h with rfl | h; rfl) | (subst h; rfl)))⟩
instance:ZhN ZmJ:=⟨fun x q h=>by simp only [ZmJ,List.mem_cons,List.not_mem_nil,or_false] at h; (repeat' (first | (rcases h with rfl | h; rfl) | (subst h; rfl)))⟩
instance:ZcJ YLeg:=⟨cLeg⟩
instance:Zbi cLeg:=⟨fun x q h=>by simp only [cLeg,List.mem_cons,List.not_mem_nil,or_false] at h; (repeat' (first | (rcases h with rfl | h; rfl) | (subst h; rfl)))⟩
instance:ZhN cLeg:=⟨fun x q h=>by simp only [cLeg,List.mem_cons,List.not_mem_nil,or_false] at h; (repeat' (first | (rcases h with rfl | h; rfl) | (subst h; rfl)))⟩
instance:ZcJ Za:=⟨Zr⟩
instance:Zbi Zr:=⟨fun x q h=>by simp only [Zr,List.mem_cons,List.not_mem_nil,or_false] at h; (repeat' (first | (rcases h with rfl | h; rfl) | (subst h; rfl)))⟩
instance:ZcJ Ze:=⟨Zs⟩
instance:Zbi Zs:=⟨fun x q h=>by simp only [Zs,List.mem_cons,List.not_mem_nil,or_false] at h; (repeat' (first | (rcases h with rfl | h; rfl) | (subst h; rfl)))⟩
instance:ZhN Zs:=⟨fun x q h=>by simp only [Zs,List.mem_cons,List.not_mem_nil,or_false] at h; (repeat' (first | (rcases h with rfl | h; rfl) | (subst h; rfl)))⟩
instance:ZcJ Zc:=⟨Zg⟩
instance:Zbi Zg:=⟨fun x q h=>by simp only [Zg,List.mem_cons,List.not_mem_nil,or_false] at h; (repeat' (first | (rcases h with rfl | h; rfl) | (subst h; rfl)))⟩
instance:ZhN Zg:=⟨fun x q h=>by simp only [Zg,List.mem_cons,List.not_mem_nil,or_false] at h; (repeat' (first | (rcases h with rfl | h; rfl) | (subst h; rfl)))⟩
instance:ZcJ Zk:=⟨ZF⟩
instance:Zbi ZF:=⟨fun x q h=>by simp only [ZF,List.mem_cons,List.not_mem_nil,or_false] at h; (repeat' (first | (rcases h with rfl | h; rfl) | (subst h; rfl)))⟩
instance:ZhN ZF:=⟨fun x q h=>by simp only [ZF,List.mem_cons,List.not_mem_nil,or_false] at h; (repeat' (first | (rcases h with rfl | h; rfl) | (subst h; rfl)))⟩
instance:ZcJ Zf:=⟨Zw⟩
instance:Zbi Zw:=⟨fun x q h=>by simp only [Zw,List.mem_cons,List.not_mem_nil,or_false] at h; (repeat' (first | (rcases h with rfl | h; rfl) | (subst h; rfl)))⟩
instance:ZcJ Zd:=⟨Zbt⟩
instance:Zbi Zbt:=⟨fun x q h=>by simp only [Zbt,List.mem_cons,List.not_mem_nil,or_false] at h; (repeat' (first | (rcases h with rfl | h; rfl) | (subst h; rfl)))⟩
instance:ZcJ ZvJ:=⟨ZmI⟩
instance:Zbi ZmI:=⟨fun x q h=>by simp only [ZmI,List.mem_cons,List.not_mem_nil,or_false] at h; (repeat' (first | (rcases h with rfl | h; rfl) | (subst h; rfl)))⟩
instance:ZhN ZmI:=⟨fun x q h=>by simp only [ZmI,List.mem_cons,List.not_mem_nil,or_false] at h; (repeat' (first | (rcases h with rfl | h; rfl) | (subst h; rfl)))⟩
instance:ZcJ YAct:=⟨cAct⟩
instance:Zbi cAct:=⟨fun x q h=>by simp only [cAct,List.mem_cons,List.not_mem_nil,or_false] at h; (repeat' (first | (rcases h with rfl | h; rfl) | (subst h; rfl)))⟩
instance:ZcJ Zrj:=⟨ZjX⟩
instance:Zbi ZjX:=⟨fun x q h=>by simp only [ZjX,List.mem_cons,List.not_mem_nil,or_false] at h; (repeat' (first | (rcases h with rfl | h; rfl) | (subst h; rfl)))⟩
instance:ZcJ Zrh:=⟨ZkU⟩
instance:Zbi ZkU:=⟨fun x q h=>by simp only [ZkU,List.mem_cons,List.not_mem_nil,or_false] at h; (repeat' (first | (rcases h with rfl | h; rfl) | (subst h; rfl)))⟩
instance:ZhN ZkU:=⟨fun x q h=>by simp only [ZkU,List.mem_cons,List.not_mem_nil,or_false] at h; (repeat' (first | (rcases h with rfl | h; rfl) | (subst h; rfl)))⟩
instance:ZcJ Zrf:=⟨Zlh⟩
instance:Zbi Zlh:=⟨fun x q h=>by simp only [Zlh,List.mem_cons,List.not_mem_nil,or_false] at h; (repeat' (first | (rcases h with rfl | h; rfl) | (subst h; rfl)))⟩
instance:ZcJ Zrg:=⟨Zli⟩
instance:Zbi Zli:=⟨fun x q h=>by simp only [Zli,List.mem_cons,List.not_mem_nil,or_false] at h; (repeat' (first | (rcases h with rfl | h; rfl) | (subst h; rfl)))⟩
instance:ZcJ Zre:=⟨ZjV⟩
instance:Zbi ZjV:=⟨fun x q h=>by simp only [ZjV,List.mem_cons,List.not_mem_nil,or_false] at h; (repeat' (first | (rcases h with rfl | h; rfl) | (subst h; rfl)))⟩
instance:ZcJ Zva:=⟨ZjY⟩
instance:Zbi ZjY:=⟨fun x q h=>by simp only [ZjY,List.mem_cons,List.not_mem_nil,or_false] at h; (repeat' (first | (rcases h with rfl | h; rfl) | (subst h; rfl)))⟩
instance:ZhN ZjY:=⟨fun x q h=>by simp only [ZjY,List.mem_cons,List.not_mem_nil,or_false] at h; (repeat' (first | (rcases h with rfl | h; rfl) | (subst h; rfl)))⟩
instance:ZcJ ZjL:=⟨ZjU⟩
instance:Zbi ZjU:=⟨fun x q h=>by simp only [ZjU,List.mem_cons,List.not_mem_nil,or_false] at h; (repeat' (first | (rcases h with rfl | h; rfl) | (subst h; rfl)))⟩
attribute [go_sem] cInt cStr Zof cB8 ZmP ZjW ZiN ZmK ZmJ cLeg Zr Zs Zg ZF Zw Zbt ZmI cAct ZjX ZkU Zlh Zli ZjV ZjY ZjU ZcJ.c
theorem Zpl {n:Nat} {a b a2 b2:Int}:eqT Tryz.prog (n+3) 55 [vi a,vi b] [vi a2,vi b2]=some (decide ((⟨a,b⟩:Ze)=(⟨a2,b2⟩:Ze))):=by
 simp only [eqT,Tryz.underlying3,Tryz.underlying55,ts55,Program.fieldsOf,go_sem]
 simp [tc55,tc3]
 try rfl
@[go_sem] theorem ZyU {a b a2 b2:Int} {KR:PV→Prop}:eqK Tryz.prog .eql 55 [vi a,vi b] [vi a2,vi b2] KR=KR (vb (decide ((⟨a,b⟩:Ze)=(⟨a2,b2⟩:Ze)))):=by unfold eqK; rw [show (10000:Nat)=9997+3 from rfl,Zpl,Tryz.underlying55]; simp only [te55,true_and]
@[go_sem] theorem ZyW {a b a2 b2:Int} {KR:PV→Prop}:eqK Tryz.prog .neq 55 [vi a,vi b] [vi a2,vi b2] KR=KR (vb (!decide ((⟨a,b⟩:Ze)=(⟨a2,b2⟩:Ze)))):=by unfold eqK; rw [show (10000:Nat)=9997+3 from rfl,Zpl,Tryz.underlying55]; simp only [te55,true_and]
theorem Zj8 {n:Nat} {a b c d a2 b2 c2 d2:Int}:eqT Tryz.prog (n+3) 135 [vi a,vi b,vi c,vi d] [vi a2,vi b2,vi c2,vi d2]=some (decide ((⟨a,⟨b,c⟩,d⟩:Zc)=(⟨a2,⟨b2,c2⟩,d2⟩:Zc))):=by
 simp only [eqT,Tryz.underlying3,Tryz.underlying135,Zzu,Tryz.underlying55,ts55,Program.fieldsOf,go_sem]
 simp [Zzs,tc55,tc3]
 try rfl
@[go_sem] theorem Zv8 {a b c d a2 b2 c2 d2:Int} {KR:PV→Prop}:eqK Tryz.prog .eql 135 [vi a,vi b,vi c,vi d] [vi a2,vi b2,vi c2,vi d2] KR=KR (vb (decide ((⟨a,⟨b,c⟩,d⟩:Zc)=(⟨a2,⟨b2,c2⟩,d2⟩:Zc)))):=by unfold eqK; rw [show (10000:Nat)=9997+3 from rfl,Zj8,Tryz.underlying135]; simp only [ZyL,true_and]
@[go_sem] theorem Zww {a b c d a2 b2 c2 d2:Int} {KR:PV→Prop}:eqK Tryz.prog .neq 135 [vi a,vi b,vi c,vi d] [vi a2,vi b2,vi c2,vi d2] KR=KR (vb (!decide ((⟨a,⟨b,c⟩,d⟩:Zc)=(⟨a2,⟨b2,c2⟩,d2⟩:Zc)))):=by unfold eqK; rw [show (10000:Nat)=9997+3 from rfl,Zj8,Tryz.underlying135]; simp only [ZyL,true_and]
end Go.Proofs.YtmcdjilbkmhfoaaGreat
namespace Go.Proofs.YtmcdjilbkmhfoaaGreat
set_option maxRecDepth 10000
open Go.ChangeShapes Go.WideShapes Go.ChangeAt Go.RowKit Go.Deep
set_option linter.unusedVariables false
theorem decP_b8:DecP Tryz.prog 5 cB8 (fun x=>0≤x.v∧x.v≤255):=by
 intro H enc w base spare held fuel cs x h
 obtain ⟨n,rfl,_,hw⟩:=DataW.trod_int Tryz.underlying5 h
 refine ⟨⟨n⟩,Ziz rfl (.v _ rfl),?_⟩
 simp [Lit.wf,IntKind.min,IntKind.max,IntKind.signed,IntKind.bits] at hw
 exact ⟨by show 0≤n; omega,by show n≤255; omega⟩
theorem cells_b8:Tryz.prog.cellsOf 5=1:=by kernel_rfl
end Go.Proofs.YtmcdjilbkmhfoaaGreat
namespace Go.Proofs.YtmcdjilbkmhfoaaGreat
set_option maxRecDepth 10000
open Go.RowKit
set_option linter.unusedVariables false
set_option linter.unusedSimpArgs false
theorem Zo {n:Int} (h:-9223372036854775808≤n∧n≤9223372036854775807):w64 n=n:=IntWalk.i64_in n h
theorem ZR {i n:Nat} (hi:i<n) (hn:n≤1152921504606846976):w64 ((i:Int)+1)=((i+1:Nat):Int):=by
 rw [Zo (by omega)]; omega
theorem Zn {α:Type} {xs:List α} {i:Nat}:getI xs (i:Int)=xs[i]?:=by
 unfold getI; rw [if_pos (by omega)]; simp
theorem Zjh {b:Bool} (h:b=true):chk b=some ():=by subst h; rfl
def runL {A α ο:Type} (F:Nat→A→α→Option (A ⊕ ο)) (E:A→Option ο):Nat→List α→A→Option ο
 | _,[],a=>E a
 | i,x::xs,a=>(F i a x).bind (ZY (fun a'=>runL F E (i+1) xs a') some)
theorem Zm5 {A α σ ο:Type} {xs:List α} {body:σ→Option (σ ⊕ ο)} {mk:A→Int→σ} {F:Nat→A→α→Option (A ⊕ ο)} {E:A→Option ο}
 (h1:∀ a (i:Nat) x,xs[i]?=some x→body (mk a i)=(F i a x).bind (ZY (fun a'=>some (.inl (mk a' ((i+1:Nat):Int)))) (fun r=>some (.inr r))))
 (h2:∀ a,body (mk a (xs.length:Int))=(E a).bind fun r=>some (.inr r)):
 ∀ (ys:List α) (i:Nat) (N:Nat) (a:A),xs.drop i=ys→i≤xs.length→ys.length<N→Zj body N (mk a i)=runL F E i ys a
 | [],i,0,a,_,_,hN=>by omega
 | [],i,N+1,a,hd,hi,hN=>by
  have:i=xs.length:=by have:=congrArg List.length hd; simp at this; omega
  subst this
  simp only [Zj,runL,h2]
  cases E a <;> rfl
 | y::ys,i,0,a,_,_,hN=>by simp at hN
 | y::ys,i,N+1,a,hd,hi,hN=>by
  have hy:xs[i]?=some y:=by
   have:=congrArg (fun l=>l[0]?) hd
   simpa using this
  have hlt:i<xs.length:=(List.getElem?_eq_some_iff.1 hy).1
  have hd':xs.drop (i+1)=ys:=by
   have:=congrArg (List.drop 1) hd
   simpa [List.drop_drop] using this
  simp only [Zj,runL,h1 a i y hy]
  cases hF:F i a y with
  | none=>rfl
  | some o=>
   cases o with
   | inl a'=>
    show Zj body N (mk a' ((i+1:Nat):Int))=runL F E (i+1) ys a'
    exact Zm5 h1 h2 ys (i+1) N a' hd' hlt (by simp at hN; omega)
   | inr r=>rfl
theorem ZgI {A α σ ο:Type} {xs:List α} {body:σ→Option (σ ⊕ ο)} {N:Nat} (mk:A→Int→σ) (F:Nat→A→α→Option (A ⊕ ο)) (E:A→Option ο)
 (h1:∀ a (i:Nat) x,xs[i]?=some x→body (mk a i)=(F i a x).bind (ZY (fun a'=>some (.inl (mk a' ((i+1:Nat):Int)))) (fun r=>some (.inr r))))
 (h2:∀ a,body (mk a (xs.length:Int))=(E a).bind fun r=>some (.inr r)) (hN:xs.length<N) (a:A):Zj body N (mk a 0)=runL F E 0 xs a:=
 Zm5 h1 h2 xs 0 N a rfl (Nat.zero_le _) hN
theorem Zjz {σ ο:Type} {body:σ→Option (σ ⊕ ο)} (I:Nat→σ→Prop) (hI:∀ k s,I k s→∃ o,body s=some o∧∀ s',o=.inl s'→∃ k',k'<k∧I k' s'):∀ (N k:Nat) (s:σ),I k s→k<N→∃ o,Zj body N s=some o
 | 0,k,s,_,hN=>by omega
 | N+1,k,s,h,hN=>by
  obtain ⟨o,hb,hn⟩:=hI k s h
  simp only [Zj,hb]
  cases o with
  | inr r=>exact ⟨r,rfl⟩
  | inl s'=>
   obtain ⟨k',hk,hi⟩:=hn s' rfl
   exact Zjz I hI N k' s' hi (by omega)
theorem Zpx {ο:Type} {body:Int→Option (Int ⊕ ο)} {n:Nat} (hn:n<NN) (h:∀ i:Nat,i<n→∃ o,body (i:Int)=some o∧∀ s',o=.inl s'→s'=((i+1:Nat):Int)) (he:∃ r,body (n:Int)=some (.inr r)):∃ o,Zj body NN 0=some o:=by
 refine Zjz (fun k s=>∃ i:Nat,i+k=n∧s=(i:Int)) ?_ NN n 0 ⟨0,by omega,rfl⟩ hn
 rintro k s ⟨i,hi,rfl⟩
 rcases Nat.lt_or_ge i n with hlt | hge
 ·obtain ⟨o,ho,hs⟩:=h i hlt
  exact ⟨o,ho,fun s' e=>⟨k-1,by omega,i+1,by omega,hs s' e⟩⟩
 ·obtain ⟨r,hr⟩:=he
  have:i=n:=by omega
  subst this
  exact ⟨_,hr,fun s' e=>by cases e⟩
theorem Zxm {ο:Type} {x:Option (Int ⊕ ο)} {i:Nat} (e:x=some (.inl ((i+1:Nat):Int))):∃ o,x=some o∧∀ s',o=.inl s'→s'=((i+1:Nat):Int):=⟨_,e,by rintro s' h; cases h; rfl⟩
theorem Ztr {ο:Type} {x:Option (Int ⊕ ο)} {i:Nat} {r:ο} (e:x=some (.inr r)):∃ o,x=some o∧∀ s',o=.inl s'→s'=((i+1:Nat):Int):=⟨_,e,by rintro s' h; cases h⟩
theorem ZhG {ο:Type} {body:Int→Option (Int ⊕ ο)} {n:Nat} {c:Nat→Bool} {r e:ο} (h1:∀ i:Nat,i<n→(∀ j,j<i→c j=true)→body (i:Int)=some (if c i=true then .inl ((i+1:Nat):Int) else .inr r)) (h2:(∀ j,j<n→c j=true)→body (n:Int)=some (.inr e)) (hN:n<NN):
 Zj body NN 0=some (if (List.range n).all c=true then e else r):=by
 have key:∀ (k i N:Nat),i+k=n→k<N→(∀ j,j<i→c j=true)→Zj body N (i:Int)=some (if (List.range n).all c=true then e else r):=by
  intro k
  induction k with
  | zero=>
   intro i N hi hk hj
   cases N with
   | zero=>omega
   | succ N=>
    have:i=n:=by omega
    subst this
    simp only [Zj,h2 hj]
    show some e=_
    rw [if_pos (List.all_eq_true.2 fun x hx=>hj x (List.mem_range.1 hx))]
  | succ k ih=>
   intro i N hi hk hj
   cases N with
   | zero=>omega
   | succ N=>
    simp only [Zj,h1 i (by omega) hj]
    by_cases hc:c i=true
    ·rw [if_pos hc]
     exact ih (i+1) N (by omega) (by omega) (fun j hj'=>by
      rcases Nat.lt_or_ge j i with h | h
      ·exact hj j h
      ·have:j=i:=by omega
       rw [this]; exact hc)
    ·rw [if_neg hc]
     show some r=_
     rw [if_neg fun hall=>hc (List.all_eq_true.1 hall i (List.mem_range.2 (by omega)))]
 exact key n 0 NN (by omega) hN (fun j hj=>by omega)
theorem ZsT {α:Type} (xs:List α) (p:α→Bool) (c:Nat→Bool) (h:∀ i (hi:i<xs.length),c i=p xs[i]):(List.range xs.length).all c=xs.all p:=by
 rw [Bool.eq_iff_iff,List.all_eq_true,List.all_eq_true]
 constructor
 ·intro H x hx
  obtain ⟨i,hi,rfl⟩:=List.getElem_of_mem hx
  rw [← h i hi]; exact H i (List.mem_range.2 hi)
 ·intro H i hi
  have hi':=List.mem_range.1 hi
  rw [h i hi']; exact H _ (List.getElem_mem hi')
theorem Zhn {α ο:Type} {xs:List α} {body:Int→Option (Int ⊕ ο)} {p:α→Bool} {r e:ο} (h1:∀ i (hi:i<xs.length),body (i:Int)=some (if p xs[i]=true then .inr r else .inl ((i+1:Nat):Int))) (h2:body (xs.length:Int)=some (.inr e)) (hN:xs.length<NN):
 Zj body NN 0=some (if xs.any p=true then r else e):=by
 rw [ZhG (n:=xs.length) (c:=fun i=>(xs[i]?.map fun x=>!p x).getD true) (r:=r) (e:=e) (fun i hi _=>?_) (fun _=>h2) hN,ZsT xs (fun x=>!p x) _ (fun i hi=>by simp [hi])]
 ·rw [List.all_eq_not_any_not]
  cases hb:xs.any p with
  | true=>simp [hb]
  | false=>simp [hb]
 ·rw [h1 i hi]
  simp only [List.getElem?_eq_getElem hi,Option.map_some,Option.getD_some]
  cases p xs[i] <;> rfl
def frz (t:List PV) (m:Mem):Option Unit:=some ()
theorem Cuts.trans {n0:Nat} {t t1 t2:List PV} {m m1 m2:Mem} (h:Cuts n0 t m t1 m1) (k:Cuts n0 t1 m1 t2 m2):Cuts n0 t m t2 m2:=by
 induction h with
 | one h=>exact .two h k
 | two h h' ih=>exact .two h (ih k)
theorem ZwS {P:Program} {n0:Nat} {Q:Exit→List PV→Mem→Prop} {t T:List PV} {m M:Mem} {α β:Type} {F:Unit→Option α} {K:α→Option β} {r:β} {i:Nat} {ops:Array Oper} {draw:Bool}
 (H:((frz T M).bind F).bind K=some r) (hc:Cuts n0 t m T M) (hk:(F ()).bind K=some r→pwp P n0 (.region i ops draw) Q T M):pwp P n0 (.region i ops draw) Q t m:=by
 rcases hk H with h | ⟨t1,m1,h1,h2⟩
 ·exact .inr ⟨T,M,hc,h⟩
 ·exact .inr ⟨t1,m1,hc.trans h1,h2⟩
def drwL (wd:Nat) (fl:List Nat):Option Unit:=some ()
theorem ZuK {P:Program} {n0:Nat} {Q:Exit→List PV→Mem→Prop} {t:List PV} {m:Mem} {α β:Type} {wd:Nat} {fl:List Nat} {F:Unit→Option α} {K:α→Option β} {r:β} {id:Nat} {ops:List Oper}
 (H:((drwL wd fl).bind F).bind K=some r) (hwd:decide (0<wd)=true) (h1:P.follows .mixedOrders=true) (hk:(F ()).bind K=some r→Zfa P wd m.length fl ops.toArray (endD ops (Q .normal)) 0 ops [] t m):pwp P n0 (.region id ops.toArray true) Q t m:=ZsR hwd h1 (hk H)
theorem ZrG {m m':Mem} {rs:List (Option Nat)} {α:Type} {f:α→List PV} [Zbi f] {xs:List α} {x:α} {cs:List PV} {k k' n:Nat} {T:TypeId} (hm:look m k=some ⟨T,k',(xs.map f).set n cs⟩) (hc:f x=cs) (hd:Zgx (rho rs) m' k):CutC (rho rs) m m' (.ms k) (.sl ((xs.set n x).map f)):=by
 subst hc
 refine Zpe (f:=f) (xs:=xs.set n x) (T:=T) (k':=k') ?_ hd
 rw [hm,List.map_set]
theorem Zt7 {m m':Mem} {rs:List (Option Nat)} {α:Type} {f:α→List PV} [Zbi f] {xs:List α} {a b:Int} {k k' A B:Nat} {T:TypeId} (hm:look m k=some ⟨T,k',xs.map f⟩) (hA:A=a.toNat) (hB:B=b.toNat) (hd:Zgx (rho rs) m' k):CutC (rho rs) m m' (.ss k A B) (.sl ((subL xs a b).map f)):=by
 subst hA hB
 have:=CutC.fss (ρ:=rho rs) (m:=m) (m':=m') k a.toNat b.toNat ⟨T,k',xs.map f⟩ (ZeN.1 hm) ZjB hd
 simpa only [Zh3,Zib,subL] using this
def rgI {α:Type} (xs:List α) (i:Int):Option α:=getI xs i
theorem rgH {α β γ:Type} {xs:List α} {i:Int} {F:α→Option β} {K:β→Option γ} {r:γ} (H:((rgI xs i).bind F).bind K=some r):∃ x,getI xs i=some x∧(F x).bind K=some r:=Zn4 H
theorem Zpt {α:Type} {f:α→List PV} {xs:List α} {x:α} {i:Int} {cs:List PV} (h:getI xs i=some x):((xs.map f).set i.toNat cs)[i.toNat]?=some cs:=by
 rw [List.getElem?_set_self]
 have:=(List.getElem?_eq_some_iff.1 (Zdb h).2).1
 simpa using this
theorem Zuk {P:Program} {m:Mem} {KR:PV→Prop} {α:Type} [ZcJ α] {xs:List α} {x:α} {T T':TypeId} {l k' n:Nat} {cs:List PV} {i:Int} {k:IntKind} (h:getI xs i=some x) (hm:look m l=some ⟨T',k',(xs.map ZcJ.c).set n cs⟩) (hp:0<Zfp P T) (hk:k'=Zfp P T) (hK:KR (.be l i.toNat 0)):Zaw P m T (.ms l) (.v (.int k i)) KR:=by
 obtain ⟨h1,h2,h3⟩:=Zop h
 obtain ⟨e,hu,he⟩:=Zil hp
 rw [he] at hk
 simp only [Zaw,hu,Zgm,hm,List.length_map,List.length_set]
 exact ⟨h1,h2,hk,hK⟩
attribute [go_sem] List.length_set List.set_set
def frzL {α:Type} (x:α) (t:α→List PV) (m:α→Mem):Option α:=some x
theorem ZuM {P:Program} {n0:Nat} {Q:Exit→List PV→Mem→Prop} {t:List PV} {m:Mem} {ξ α β:Type} {x:ξ} {T:ξ→List PV} {M:ξ→Mem} {F:ξ→Option α} {K:α→Option β} {r:β} {i:Nat} {ops:Array Oper} {draw:Bool}
 (H:((frzL x T M).bind F).bind K=some r) (hc:Cuts n0 t m (T x) (M x)) (hk:∀ z,(F z).bind K=some r→pwp P n0 (.region i ops draw) Q (T z) (M z)):pwp P n0 (.region i ops draw) Q t m:=by
 rcases hk x H with h | ⟨t1,m1,h1,h2⟩
 ·exact .inr ⟨T x,M x,hc,h⟩
 ·exact .inr ⟨t1,m1,hc.trans h1,h2⟩
def rhoM (ρ:List Nat):Option Unit:=some ()
theorem ZvT {R α β:Type} {P:Program} {ρ:List Nat} {A:Option R} [C:CT P A] {F:Unit→Option α} {G:R→Option α} {K:α→Option β} {r:β} {f:FuncId} {ps:List PV} {io:Bool} {wd ν:Nat} {m:Mem} {KA:PV→Mem→Prop}
 (H:((rhoM ρ).bind F).bind K=some r) (hF:F ()=A.bind G) (hf:C.f=f) (hio:io=true) (hps:ps=C.args.map (renA (sig ρ ν))) (hq:∀ q∈C.args,Zhm false q∧lowA C.m0.length q=true) (hn:ρ.Nodup) (hin:Zf3 (sig ρ ν) m C.m0.length ρ C.m0)
 (hlen:∀ y,C.m0.length≤(C.mem y).length∧(C.mem y).length-C.m0.length≤wd) (hm:∀ y,∀ mb,some mb∈C.mem y→∀ cs∈mb.es,∀ p∈cs,Zcw false p) (hg:∀ y,ZgY false (C.res y))
 (hk:∀ y,A=some y→(G y).bind K=some r→KA (renV (sig ρ ν) (C.res y)) (ZdU (sig ρ ν) ν ((C.mem y).drop ρ.length) (ZfI (sig ρ ν) ρ (C.mem y) m))):ZgO P io wd ν f ps m KA:=by
 have H':(F ()).bind K=some r:=H
 rw [hF] at H'
 obtain ⟨y,hy,H2⟩:=Zn4 H'
 subst hf
 exact .inr ⟨ρ,C.m0,C.args,C.res y,C.mem y,.inl hio,C.ok hy,(hlen y).1,(hlen y).2,hps,hq,hn,hin,hm y,hg y,hk y hy H2⟩
theorem ZtW {R α β:Type} {P:Program} {ρ:List Nat} {A:Option R} [C:CT P A] {F:Unit→Option α} {G:R→Option α} {K:α→Option β} {r:β} {f:FuncId} {ps:List PV} {wd ν:Nat} {m:Mem} {KA:List Nat→PV→Mem→Prop}
 (H:((rhoM ρ).bind F).bind K=some r) (hF:F ()=A.bind G) (hf:C.f=f) (hps:ps=C.args.map (renA (sig ρ ν))) (hq:∀ q∈C.args,Zhm false q∧lowA C.m0.length q=true) (hn:ρ.Nodup) (hin:Zf3 (sig ρ ν) m C.m0.length ρ C.m0)
 (hlen:∀ y,C.m0.length≤(C.mem y).length∧(C.mem y).length-C.m0.length≤wd) (hm:∀ y,∀ mb,some mb∈C.mem y→∀ cs∈mb.es,∀ p∈cs,Zcw false p) (hg:∀ y,ZgY false (C.res y))
 (hk:∀ y,A=some y→(G y).bind K=some r→KA ρ (renV (sig ρ ν) (C.res y)) (ZdU (sig ρ ν) ν ((C.mem y).drop ρ.length) (ZfI (sig ρ ν) ρ (C.mem y) m))):pIO P wd ν f ps m KA:=by
 have H':(F ()).bind K=some r:=H
 rw [hF] at H'
 obtain ⟨y,hy,H2⟩:=Zn4 H'
 subst hf
 exact ⟨ρ,C.m0,C.args,C.res y,C.mem y,C.ok hy,(hlen y).1,(hlen y).2,hps,hq,hn,hin,hm y,hg y,hk y hy H2⟩
def ZvG:Prop:=True
theorem rhoH {α β:Type} {ρ:List Nat} {F:Unit→Option α} {K:α→Option β} {r:β} (H:((rhoM ρ).bind F).bind K=some r):ZvG:=trivial
theorem rhoS {P:Program} {f:FuncId} {ps:List PV} {io:Bool} {wd ν:Nat} {m:Mem} {KA:PV→Mem→Prop} (h:ZvG) (hk:ZgO P io wd ν f ps m KA):ZgO P io wd ν f ps m KA:=hk
theorem Zzl {P:Program} {f:FuncId} {ps:List PV} {wd ν:Nat} {m:Mem} {KA:List Nat→PV→Mem→Prop} (h:ZvG) (hk:pIO P wd ν f ps m KA):pIO P wd ν f ps m KA:=hk
theorem Zlw {σ:Nat→Nat} {m:Mem} {n:Nat}:Zf3 σ m n [] []:=trivial
theorem Zut {n:Nat} {p:PV} (h:isC p=true):lowC n p=true:=by
 cases p with
 | fn f cs=>
  simp only [isC,List.all_eq_true] at h
  simp only [lowC,List.all_eq_true]
  intro c hc
  have:=h c hc
  cases c <;> simp_all [isC1,low1]
 | _=>simp_all [isC,isC1,lowC,low1]
theorem Zlv {α:Type} {f:α→List PV} [hf:Zbi f] {σ:Nat→Nat} {m:Mem} {n l T k:Nat} {xs:List α} {ρ:List Nat} {m0:Mem} (hl:look m l=some ⟨T,k,xs.map f⟩) (h:Zf3 σ m n ρ m0):Zf3 σ m n (l::ρ) (some ⟨T,k,xs.map f⟩::m0):=by
 refine ⟨?_,fun cs hcs p hp=>?_,h⟩
 ·rw [ZeN.1 hl]
  simp only [Zgb,Znx]
 ·obtain ⟨x,_,rfl⟩:=List.mem_map.1 hcs
  exact ⟨ZhC (hf.h x p hp),Zut (hf.h x p hp)⟩
theorem Zlx {σ:Nat→Nat} {m:Mem} {n l T k:Nat} {cs cs':List PV} {ρ:List Nat} {m0:Mem} (hl:look m l=some ⟨T,k,[cs']⟩) (hc:cs'=cs.map (renC σ)) (hg:∀ p∈cs,Zcw false p∧lowC n p=true) (h:Zf3 σ m n ρ m0):Zf3 σ m n (l::ρ) (some ⟨T,k,[cs]⟩::m0):=by
 subst hc
 refine ⟨ZeN.1 hl,fun ds hds p hp=>?_,h⟩
 obtain rfl:ds=cs:=by simpa using hds
 exact hg p hp
@[irreducible] def jn {ο α:Type} (i j:Nat) (J:Option (ο ⊕ α)) (T:ο→List PV) (M:ο→Mem):Option (ο ⊕ α):=J
def hdC:Code→Bool
 | .region _ _ _=>true
 | .loop _=>true
 | .seq a _=>hdC a
 | .block _ c=>hdC c
 | _=>false
def idC:Code→Nat
 | .region i _ _=>i
 | .loop c=>idC c
 | .seq a _=>idC a
 | .block _ c=>idC c
 | _=>0
theorem Zmi {P:Program} {n0:Nat}:∀ (c:Code),hdC c=true→∀ {Q:Exit→List PV→Mem→Prop} {t T:List PV} {m M:Mem},Cuts n0 t m T M→pwp P n0 c Q T M→pwp P n0 c Q t m
 | .region i ops draw,_,Q,t,T,m,M,hc,h=>by
  rcases h with h | ⟨t1,m1,h1,h2⟩
  ·exact .inr ⟨T,M,hc,h⟩
  ·exact .inr ⟨t1,m1,hc.trans h1,h2⟩
 | .loop c,_,Q,t,T,m,M,hc,h=>by
  obtain ⟨I,n,t0,m0,h1,h2⟩:=h
  exact ⟨I,n,t0,m0,hc.trans h1,h2⟩
 | .seq a b,hd,Q,t,T,m,M,hc,h=>Zmi a hd hc h
 | .block i c,hd,Q,t,T,m,M,hc,h=>Zmi c hd hc h
theorem Zvw {P:Program} {n0:Nat} {Q:Exit→List PV→Mem→Prop} {t:List PV} {m:Mem} {a b:Code} {ο α β γ:Type} {J:Option (ο ⊕ α)} {T:ο→List PV} {M:ο→Mem} {G:ο→Option β} {F:α→Option β} {K:β→Option γ} {r:γ}
 {i j:Nat} (H:((jn i j J T M).bind (ZY G F)).bind K=some r) (hd:hdC b=true) (hi:(idC a == i && idC b == j)=true)
 (h1:∀ K':List PV→Mem→Prop,(∀ o t' m',(G o).bind K=some r→Cuts n0 t' m' (T o) (M o)→K' t' m')→J.bind (ZY (fun o=>(G o).bind K) (fun v=>(F v).bind K))=some r→pwp P n0 a (Zhw K' Q) t m)
 (h2:∀ o,(G o).bind K=some r→pwp P n0 b Q (T o) (M o)):pwp P n0 (.seq a b) Q t m:=by
 unfold jn at H
 refine h1 (fun t m=>pwp P n0 b Q t m) (fun o t' m' h hc=>Zmi b hd hc (h2 o h)) ?_
 cases J with
 | none=>cases H
 | some x=>cases x <;> exact H
theorem jnX {ο α β:Type} {n0:Nat} {s:ο} {F:ο→Option β} {K:α→Option β} {r:β} {Kp:List PV→Mem→Prop} {T:ο→List PV} {M:ο→Mem} {t:List PV} {m:Mem} (H:(some (Sum.inl s)).bind (ZY F K)=some r) (hL:∀ o t' m',F o=some r→Cuts n0 t' m' (T o) (M o)→Kp t' m') (hc:Cuts n0 t m (T s) (M s)):Kp t m:=hL s t m H hc
def IsJn:Prop:=True
theorem jnH {ο α β γ:Type} {i j:Nat} {J:Option (ο ⊕ α)} {T:ο→List PV} {M:ο→Mem} {G:(ο ⊕ α)→Option β} {K:β→Option γ} {r:γ} (H:((jn i j J T M).bind G).bind K=some r):IsJn:=trivial
theorem jnS {P:Program} {n0:Nat} {Q:Exit→List PV→Mem→Prop} {t:List PV} {m:Mem} {a b:Code} (h:IsJn) (hk:pwp P n0 (.seq a b) Q t m):pwp P n0 (.seq a b) Q t m:=hk
theorem Zo0 {K K2:List PV→Mem→Prop} {Q:Exit→List PV→Mem→Prop}:Zhw K (Zhw K2 Q)=Zhw K Q:=by
 funext e t m
 cases e <;> rfl
theorem ZsO {P:Program} {n0:Nat} {Q:Exit→List PV→Mem→Prop} {t:List PV} {m:Mem} {a b c:Code} (h:pwp P n0 (.seq (.seq a b) c) Q t m):pwp P n0 (.seq a (.seq b c)) Q t m:=by
 have e:pwp P n0 (.seq (.seq a b) c) Q t m=pwp P n0 a (Zhw (fun t m=>pwp P n0 b (Zhw (fun t m=>pwp P n0 c Q t m) Q) t m) (Zhw (fun t m=>pwp P n0 c Q t m) Q)) t m:=by simp only [pwp]
 rw [e,Zo0] at h
 simp only [pwp]
 exact h
theorem ZwT {P:Program} {n0:Nat} {Q:Exit→List PV→Mem→Prop} {t:List PV} {m:Mem} {a b c:Code} {ο α β γ:Type} {J:Option (ο ⊕ α)} {T:ο→List PV} {M:ο→Mem} {G:ο→Option β} {F:α→Option β} {K:β→Option γ} {r:γ}
 {i j:Nat} (H:((jn i j J T M).bind (ZY G F)).bind K=some r) (hd:hdC c=true) (hi:(idC a == i && idC c == j)=true)
 (h1:∀ K':List PV→Mem→Prop,(∀ o t' m',(G o).bind K=some r→Cuts n0 t' m' (T o) (M o)→K' t' m')→J.bind (ZY (fun o=>(G o).bind K) (fun v=>(F v).bind K))=some r→pwp P n0 (.seq a b) (Zhw K' Q) t m)
 (h2:∀ o,(G o).bind K=some r→pwp P n0 c Q (T o) (M o)):pwp P n0 (.seq a (.seq b c)) Q t m:=ZsO (Zvw H hd hi h1 h2)
inductive SubC:PV→PV→Prop
 | r (p:PV):SubC p p
 | nil (c:Nat):SubC (.v (.slice none 0 c)) (.sl [])
 | un (p:PV):SubC p .un
inductive SubL:List PV→List PV→Prop
 | n:SubL [] []
 | c {p q:PV} {ps qs:List PV} (h:SubC p q) (k:SubL ps qs):SubL (p::ps) (q::qs)
inductive SubV:PV→PV→Prop
 | c {p q:PV} (h:SubC p q):SubV p q
 | ag {cs ds:List PV} (h:SubL cs ds):SubV (.ag cs) (.ag ds)
inductive SubA:List PV→List PV→Prop
 | n:SubA [] []
 | c {p q:PV} {ps qs:List PV} (h:SubV p q) (k:SubA ps qs):SubA (p::ps) (q::qs)
theorem SubC.rep {w:World} {E:Env} {p q:PV} {x:Value} (h:SubC p q) (hr:Rep w E p x):Rep w E q x:=by
 cases h with
 | r=>exact hr
 | nil c=>
  cases hr with
  | c h=>cases h with
   | v _ _=>exact .c (.nil none c)
 | un=>exact .c (.un x)
theorem SubL.len {cs ds:List PV} (h:SubL cs ds):cs.length=ds.length:=by
 induction h with
 | n=>rfl
 | c _ _ ih=>simp [ih]
theorem SubL.get {cs ds:List PV} (h:SubL cs ds):∀ (j:Nat) (q:PV),ds[j]?=some q→∃ p,cs[j]?=some p∧SubC p q:=by
 induction h with
 | n=>intro j q hq; simp at hq
 | c h k ih=>
  intro j q hq
  cases j with
  | zero=>simp at hq; subst hq; exact ⟨_,by simp,h⟩
  | succ j=>simpa using ih j q (by simpa using hq)
theorem SubV.rep {w:World} {E:Env} {p q:PV} {x:Value} (h:SubV p q) (hr:Rep w E p x):Rep w E q x:=by
 cases h with
 | c h=>exact h.rep hr
 | ag h=>
  obtain ⟨vs,rfl,hl,h1,hc⟩:=Rep.ag_inv hr
  exact .ag _ vs (by rw [hl,h.len]) h1 fun j p y hp hy=>by
   obtain ⟨p',hp',hs⟩:=h.get j p hp
   exact hs.rep (hc j p' y hp' hy)
theorem SubA.len {cs ds:List PV} (h:SubA cs ds):cs.length=ds.length:=by
 induction h with
 | n=>rfl
 | c _ _ ih=>simp [ih]
theorem SubA.get {cs ds:List PV} (h:SubA cs ds):∀ (j:Nat) (q:PV),ds[j]?=some q→∃ p,cs[j]?=some p∧SubV p q:=by
 induction h with
 | n=>intro j q hq; simp at hq
 | c h k ih=>
  intro j q hq
  cases j with
  | zero=>simp at hq; subst hq; exact ⟨_,by simp,h⟩
  | succ j=>simpa using ih j q (by simpa using hq)
theorem Zev.weak {P:Program} {f:FuncId} {ps qs:List PV} {m0:Mem} {r:PV} {m1:Mem} (h:Zev P f qs m0 r m1) (hs:SubA ps qs):Zev P f ps m0 r m1:=by
 intro S β w vs hok hl ha
 refine h S β w vs hok (by rw [hl,hs.len]) fun i q hq=>?_
 obtain ⟨p,hp,hv⟩:=hs.get i q hq
 obtain ⟨x,hx,hr⟩:=ha i p hp
 exact ⟨x,hx,hv.rep hr⟩
def isCM:PV→Bool
 | .ms _=>true
 | p=>isC p
def Zyk:PV→Bool
 | .ag cs=>cs.all isCM
 | .tu _=>false
 | p=>isCM p
theorem Zpq {p:PV} (h:isCM p=true):Zcw false p:=by
 cases p with
 | ms l=>simp [Zcw]
 | _=>exact ZhC h
theorem Zvl {cs:List PV} (h:cs.all isCM=true):ZgY false (.ag cs):=fun c hc=>Zpq (List.all_eq_true.1 h c hc)
theorem Zvm {ps:List PV} (h:ps.all Zyk=true):ZgY false (.tu ps):=by
 intro c hc
 have:=List.all_eq_true.1 h c hc
 cases c with
 | ag cs=>exact fun d hd=>Zpq (List.all_eq_true.1 this d hd)
 | tu vs=>simp [Zyk] at this
 | fn f cs=>exact ZhC (c:=.fn f cs) this
 | _=>simp [Zhm,Zcw]
theorem Zol {m m':Mem} {ρ:Nat→Option Nat} {c:Nat}:CutC ρ m m' (.v (.slice none 0 c)) (.sl []):=.nilsl c
theorem ZoQ {m m':Mem} {rs rr:List (Option Nat)} {T k:Nat} {mm:Mem} (hk:decide (0<k)=true) (h:ZcZ rs m m' rr mm):ZcZ rs m m' (none::rr) (some ⟨T,k,[]⟩::mm):=⟨⟨rfl,of_decide_eq_true hk⟩,h⟩
theorem Zym {i:Nat} {rs:List (Option Nat)} {m:Mem}:lowB 0 i rs m=true:=rfl
theorem Zyn {n i:Nat} {rs:List (Option Nat)} {mb:MB} {m:Mem} (h:lowB n (i+1) rs m=true):lowB (n+1) i (some i::rs) (some mb::m)=true:=by simp [lowB,h]
theorem Zyo {n i:Nat} {rs:List (Option Nat)} {m:Mem} (h:lowB n (i+1) rs m=true):lowB (n+1) i (none::rs) (none::m)=true:=by simpa [lowB] using h
theorem ZxU {n0:Nat} {t t':List PV} {m:Mem} (hl:lowB n0 0 [] []=true) (hT:cutT (rho []) m [] t t') (hM:ZcZ [] m [] [] []) (hi:injB []=true):Cuts n0 t m t' []:=ZgG hT hM hi hl
theorem ZxV {n0:Nat} {t t':List PV} {m:Mem} {a:Option MB} (r0:Option Nat) (hl:lowB n0 0 [r0] [a]=true) (hT:cutT (rho [r0]) m [a] t t') (hM:ZcZ [r0] m [a] [r0] [a]) (hi:injB [r0]=true):Cuts n0 t m t' [a]:=ZgG hT hM hi hl
theorem ZxW {n0:Nat} {t t':List PV} {m:Mem} {a b:Option MB} (r0 r1:Option Nat) (hl:lowB n0 0 [r0,r1] [a,b]=true) (hT:cutT (rho [r0,r1]) m [a,b] t t') (hM:ZcZ [r0,r1] m [a,b] [r0,r1] [a,b]) (hi:injB [r0,r1]=true):Cuts n0 t m t' [a,b]:=ZgG hT hM hi hl
theorem ZxX {n0:Nat} {t t':List PV} {m:Mem} {a b c:Option MB} (r0 r1 r2:Option Nat) (hl:lowB n0 0 [r0,r1,r2] [a,b,c]=true) (hT:cutT (rho [r0,r1,r2]) m [a,b,c] t t') (hM:ZcZ [r0,r1,r2] m [a,b,c] [r0,r1,r2] [a,b,c]) (hi:injB [r0,r1,r2]=true):Cuts n0 t m t' [a,b,c]:=ZgG hT hM hi hl
theorem ZxY {n0:Nat} {t t':List PV} {m:Mem} {a b c d:Option MB} (r0 r1 r2 r3:Option Nat) (hl:lowB n0 0 [r0,r1,r2,r3] [a,b,c,d]=true) (hT:cutT (rho [r0,r1,r2,r3]) m [a,b,c,d] t t') (hM:ZcZ [r0,r1,r2,r3] m [a,b,c,d] [r0,r1,r2,r3] [a,b,c,d]) (hi:injB [r0,r1,r2,r3]=true):Cuts n0 t m t' [a,b,c,d]:=ZgG hT hM hi hl
theorem ZxZ {n0:Nat} {t t':List PV} {m:Mem} {a b c d e:Option MB} (r0 r1 r2 r3 r4:Option Nat) (hl:lowB n0 0 [r0,r1,r2,r3,r4] [a,b,c,d,e]=true) (hT:cutT (rho [r0,r1,r2,r3,r4]) m [a,b,c,d,e] t t') (hM:ZcZ [r0,r1,r2,r3,r4] m [a,b,c,d,e] [r0,r1,r2,r3,r4] [a,b,c,d,e]) (hi:injB [r0,r1,r2,r3,r4]=true):Cuts n0 t m t' [a,b,c,d,e]:=ZgG hT hM hi hl
theorem Zx0 {n0:Nat} {t t':List PV} {m:Mem} {a b c d e f:Option MB} (r0 r1 r2 r3 r4 r5:Option Nat) (hl:lowB n0 0 [r0,r1,r2,r3,r4,r5] [a,b,c,d,e,f]=true) (hT:cutT (rho [r0,r1,r2,r3,r4,r5]) m [a,b,c,d,e,f] t t') (hM:ZcZ [r0,r1,r2,r3,r4,r5] m [a,b,c,d,e,f] [r0,r1,r2,r3,r4,r5] [a,b,c,d,e,f]) (hi:injB [r0,r1,r2,r3,r4,r5]=true):Cuts n0 t m t' [a,b,c,d,e,f]:=ZgG hT hM hi hl
theorem Zx1 {n0:Nat} {t t':List PV} {m:Mem} {a b c d e f g:Option MB} (r0 r1 r2 r3 r4 r5 r6:Option Nat) (hl:lowB n0 0 [r0,r1,r2,r3,r4,r5,r6] [a,b,c,d,e,f,g]=true) (hT:cutT (rho [r0,r1,r2,r3,r4,r5,r6]) m [a,b,c,d,e,f,g] t t') (hM:ZcZ [r0,r1,r2,r3,r4,r5,r6] m [a,b,c,d,e,f,g] [r0,r1,r2,r3,r4,r5,r6] [a,b,c,d,e,f,g]) (hi:injB [r0,r1,r2,r3,r4,r5,r6]=true):Cuts n0 t m t' [a,b,c,d,e,f,g]:=ZgG hT hM hi hl
theorem Zx2 {n0:Nat} {t t':List PV} {m:Mem} {a b c d e f g h:Option MB} (r0 r1 r2 r3 r4 r5 r6 r7:Option Nat) (hl:lowB n0 0 [r0,r1,r2,r3,r4,r5,r6,r7] [a,b,c,d,e,f,g,h]=true) (hT:cutT (rho [r0,r1,r2,r3,r4,r5,r6,r7]) m [a,b,c,d,e,f,g,h] t t') (hM:ZcZ [r0,r1,r2,r3,r4,r5,r6,r7] m [a,b,c,d,e,f,g,h] [r0,r1,r2,r3,r4,r5,r6,r7] [a,b,c,d,e,f,g,h]) (hi:injB [r0,r1,r2,r3,r4,r5,r6,r7]=true):Cuts n0 t m t' [a,b,c,d,e,f,g,h]:=ZgG hT hM hi hl
theorem Zx3 {n0:Nat} {t t':List PV} {m:Mem} {a b c d e f g h i:Option MB} (r0 r1 r2 r3 r4 r5 r6 r7 r8:Option Nat) (hl:lowB n0 0 [r0,r1,r2,r3,r4,r5,r6,r7,r8] [a,b,c,d,e,f,g,h,i]=true) (hT:cutT (rho [r0,r1,r2,r3,r4,r5,r6,r7,r8]) m [a,b,c,d,e,f,g,h,i] t t') (hM:ZcZ [r0,r1,r2,r3,r4,r5,r6,r7,r8] m [a,b,c,d,e,f,g,h,i] [r0,r1,r2,r3,r4,r5,r6,r7,r8] [a,b,c,d,e,f,g,h,i]) (hi:injB [r0,r1,r2,r3,r4,r5,r6,r7,r8]=true):Cuts n0 t m t' [a,b,c,d,e,f,g,h,i]:=ZgG hT hM hi hl
theorem Zv1 {n0:Nat} {t t':List PV} {m:Mem} {a b c d e f g h i j:Option MB} (r0 r1 r2 r3 r4 r5 r6 r7 r8 r9:Option Nat) (hl:lowB n0 0 [r0,r1,r2,r3,r4,r5,r6,r7,r8,r9] [a,b,c,d,e,f,g,h,i,j]=true) (hT:cutT (rho [r0,r1,r2,r3,r4,r5,r6,r7,r8,r9]) m [a,b,c,d,e,f,g,h,i,j] t t') (hM:ZcZ [r0,r1,r2,r3,r4,r5,r6,r7,r8,r9] m [a,b,c,d,e,f,g,h,i,j] [r0,r1,r2,r3,r4,r5,r6,r7,r8,r9] [a,b,c,d,e,f,g,h,i,j]) (hi:injB [r0,r1,r2,r3,r4,r5,r6,r7,r8,r9]=true):Cuts n0 t m t' [a,b,c,d,e,f,g,h,i,j]:=ZgG hT hM hi hl
theorem Zv2 {n0:Nat} {t t':List PV} {m:Mem} {a b c d e f g h i j k:Option MB} (r0 r1 r2 r3 r4 r5 r6 r7 r8 r9 r10:Option Nat) (hl:lowB n0 0 [r0,r1,r2,r3,r4,r5,r6,r7,r8,r9,r10] [a,b,c,d,e,f,g,h,i,j,k]=true) (hT:cutT (rho [r0,r1,r2,r3,r4,r5,r6,r7,r8,r9,r10]) m [a,b,c,d,e,f,g,h,i,j,k] t t') (hM:ZcZ [r0,r1,r2,r3,r4,r5,r6,r7,r8,r9,r10] m [a,b,c,d,e,f,g,h,i,j,k] [r0,r1,r2,r3,r4,r5,r6,r7,r8,r9,r10] [a,b,c,d,e,f,g,h,i,j,k]) (hi:injB [r0,r1,r2,r3,r4,r5,r6,r7,r8,r9,r10]=true):Cuts n0 t m t' [a,b,c,d,e,f,g,h,i,j,k]:=ZgG hT hM hi hl
theorem Zv3 {n0:Nat} {t t':List PV} {m:Mem} {a b c d e f g h i j k l:Option MB} (r0 r1 r2 r3 r4 r5 r6 r7 r8 r9 r10 r11:Option Nat) (hl:lowB n0 0 [r0,r1,r2,r3,r4,r5,r6,r7,r8,r9,r10,r11] [a,b,c,d,e,f,g,h,i,j,k,l]=true) (hT:cutT (rho [r0,r1,r2,r3,r4,r5,r6,r7,r8,r9,r10,r11]) m [a,b,c,d,e,f,g,h,i,j,k,l] t t') (hM:ZcZ [r0,r1,r2,r3,r4,r5,r6,r7,r8,r9,r10,r11] m [a,b,c,d,e,f,g,h,i,j,k,l] [r0,r1,r2,r3,r4,r5,r6,r7,r8,r9,r10,r11] [a,b,c,d,e,f,g,h,i,j,k,l]) (hi:injB [r0,r1,r2,r3,r4,r5,r6,r7,r8,r9,r10,r11]=true):Cuts n0 t m t' [a,b,c,d,e,f,g,h,i,j,k,l]:=ZgG hT hM hi hl
theorem Zfj {b:Bool} {T k:Nat} {es:List (List PV)} (h:∀ cs∈es,∀ p∈cs,Zcw b p):∀ mb,some mb∈([some ⟨T,k,es⟩]:Mem)→∀ cs∈mb.es,∀ p∈cs,Zcw b p:=by
 intro mb hm
 simp only [List.mem_singleton,Option.some.injEq] at hm
 subst hm
 exact h
theorem Zos {m:Mem} {b:Bool} (h2:∀ mb,some mb∈m→∀ cs∈mb.es,∀ p∈cs,Zcw b p):∀ mb,some mb∈((none:Option MB)::m)→∀ cs∈mb.es,∀ p∈cs,Zcw b p:=by
 intro mb h
 rcases List.mem_cons.1 h with h | h
 ·cases h
 ·exact h2 mb h
theorem hm_e {T k:Nat} {b:Bool}:∀ mb,some mb∈([some ⟨T,k,[]⟩]:Mem)→∀ cs∈mb.es,∀ p∈cs,Zcw b p:=Zfj (by simp)
theorem ZyX {α β:Type} {K:α→Option β} {r:β} (h:(none:Option α).bind K=some r):False:=by cases h
theorem ZrP {n:Nat} {a a2:ByteArray} {b b2:ByteArray} {c c2:Int} {d d2:Int} {e e2:Int} {f f2:Int}:eqT Tryz.prog (n+3) 67 [vs a,vs b,vi c,vi d,vi e,vi f] [vs a2,vs b2,vi c2,vi d2,vi e2,vi f2]=some (decide ((⟨a,b,c,d,e,f⟩:YLeg)=(⟨a2,b2,c2,d2,e2,f2⟩:YLeg))):=by
 simp only [eqT,Tryz.underlying3,Tryz.underlying67,ts67,Tryz.underlying9,Program.fieldsOf,go_sem]
 simp [tc67,tc3,tc9,baB]
 rfl
@[go_sem] theorem Zzc {a a2:ByteArray} {b b2:ByteArray} {c c2:Int} {d d2:Int} {e e2:Int} {f f2:Int} {KR:PV→Prop}:eqK Tryz.prog .eql 67 [vs a,vs b,vi c,vi d,vi e,vi f] [vs a2,vs b2,vi c2,vi d2,vi e2,vi f2] KR=KR (vb (decide ((⟨a,b,c,d,e,f⟩:YLeg)=(⟨a2,b2,c2,d2,e2,f2⟩:YLeg)))):=by unfold eqK; rw [show (10000:Nat)=9997+3 from rfl,ZrP,Tryz.underlying67]; simp only [te67,true_and]
@[go_sem] theorem Zzf {a a2:ByteArray} {b b2:ByteArray} {c c2:Int} {d d2:Int} {e e2:Int} {f f2:Int} {KR:PV→Prop}:eqK Tryz.prog .neq 67 [vs a,vs b,vi c,vi d,vi e,vi f] [vs a2,vs b2,vi c2,vi d2,vi e2,vi f2] KR=KR (vb (!decide ((⟨a,b,c,d,e,f⟩:YLeg)=(⟨a2,b2,c2,d2,e2,f2⟩:YLeg)))):=by unfold eqK; rw [show (10000:Nat)=9997+3 from rfl,ZrP,Tryz.underlying67]; simp only [te67,true_and]
theorem Zpk {n:Nat} {a a2:Int} {b b2:Int} {c c2:Int} {d d2:ByteArray} {e e2:Int} {f f2:Int}:eqT Tryz.prog (n+3) 130 [vi a,vi b,vi c,vs d,vi e,vi f] [vi a2,vi b2,vi c2,vs d2,vi e2,vi f2]=some (decide ((⟨a,b,c,d,⟨e,f⟩⟩:Zk)=(⟨a2,b2,c2,d2,⟨e2,f2⟩⟩:Zk))):=by
 simp only [eqT,Tryz.underlying3,Tryz.underlying130,Zzt,Tryz.underlying55,ts55,Tryz.underlying9,Program.fieldsOf,go_sem]
 simp [Zzr,tc55,tc3,tc9,baB]
 rfl
@[go_sem] theorem ZyT {a a2:Int} {b b2:Int} {c c2:Int} {d d2:ByteArray} {e e2:Int} {f f2:Int} {KR:PV→Prop}:eqK Tryz.prog .eql 130 [vi a,vi b,vi c,vs d,vi e,vi f] [vi a2,vi b2,vi c2,vs d2,vi e2,vi f2] KR=KR (vb (decide ((⟨a,b,c,d,⟨e,f⟩⟩:Zk)=(⟨a2,b2,c2,d2,⟨e2,f2⟩⟩:Zk)))):=by unfold eqK; rw [show (10000:Nat)=9997+3 from rfl,Zpk,Tryz.underlying130]; simp only [ZyK,true_and]
@[go_sem] theorem ZyV {a a2:Int} {b b2:Int} {c c2:Int} {d d2:ByteArray} {e e2:Int} {f f2:Int} {KR:PV→Prop}:eqK Tryz.prog .neq 130 [vi a,vi b,vi c,vs d,vi e,vi f] [vi a2,vi b2,vi c2,vs d2,vi e2,vi f2] KR=KR (vb (!decide ((⟨a,b,c,d,⟨e,f⟩⟩:Zk)=(⟨a2,b2,c2,d2,⟨e2,f2⟩⟩:Zk)))):=by unfold eqK; rw [show (10000:Nat)=9997+3 from rfl,Zpk,Tryz.underlying130]; simp only [ZyK,true_and]
set_option maxRecDepth 4000
theorem Zt6 {ρ:Nat→Option Nat} {m m':Mem} {f:FuncId} {cs ds:List PV} (h:cutL ρ m m' cs ds):CutC ρ m m' (.fn f cs) (.fn f ds):=by
 have key:∀ (cs ds:List PV),cutL ρ m m' cs ds→ds.length=cs.length∧∀ (j:Nat) (p r:PV),cs[j]?=some p→ds[j]?=some r→CutC ρ m m' p r:=by
  intro cs
  induction cs with
  | nil=>intro ds h; cases ds with
   | nil=>exact ⟨rfl,by simp⟩
   | cons d ds=>exact h.elim
  | cons c cs ih=>intro ds h; cases ds with
   | nil=>exact h.elim
   | cons d ds=>
    obtain ⟨h1,h2⟩:=h
    obtain ⟨k1,k2⟩:=ih ds h2
    refine ⟨by simp [k1],fun j p r hp hr=>?_⟩
    cases j with
    | zero=>simp at hp hr; subst hp hr; exact h1
    | succ j=>simp at hp hr; exact k2 j p r hp hr
 obtain ⟨a,b⟩:=key cs ds h
 exact .fn f cs ds a b
theorem Zr6 {α:Type} {xs:List α} {n:Nat} {y:α} {c:α→List PV} (h:getI xs (n:Int)=some y):(xs.map c)[n]?=some (c y):=by
 unfold getI at h
 rw [if_pos (Int.natCast_nonneg n),Int.toNat_natCast] at h
 rw [List.getElem?_map,h]; rfl
theorem lit3 {a b c i y:Int} (h:getI [a,b,c] i=some y):([[PV.v (.int .i64 a)],[PV.v (.int .i64 b)],[PV.v (.int .i64 c)]]:List (List PV))[i.toNat]?=some [PV.v (.int .i64 y)]:=by
 have:([[PV.v (.int .i64 a)],[PV.v (.int .i64 b)],[PV.v (.int .i64 c)]]:List (List PV))=[a,b,c].map cInt:=rfl
 rw [this]; exact Zm2 h
theorem ZwE {P:Program} {io:Bool} {wd ν:Nat} {f:FuncId} {cs ps:List PV} {m:Mem} {K:PV→Mem→Prop} (h1:∀ c∈cs,isR c=true) (h2:isFn P f) (h3:ZgO P io wd ν f (ps++cs) m K):pDyn P io wd ν (.fn f cs) ps m K:=⟨h1,h2,h3⟩
def ZmH (x:List Int):List PV:=[.sl (x.map cInt)]
instance:ZcJ (List Int):=⟨ZmH⟩
instance:Zbi ZmH:=⟨fun x q h=>by simp only [ZmH,List.mem_singleton] at h; subst h; rfl⟩
attribute [go_sem] ZmH
theorem xc {p:Prop} (h:p:=by (try simp only [U_s,U_z]); (with_reducible refine cutS ?_); (first | (with_reducible apply ZxU) | (with_reducible apply ZxV) | (with_reducible apply ZxW) | (with_reducible apply ZxX) | (with_reducible apply ZxY) | (with_reducible apply ZxZ) | (with_reducible apply Zx0) | (with_reducible apply Zx1) | (with_reducible apply Zx2) | (with_reducible apply Zx3) | (with_reducible apply Zv1) | (with_reducible apply Zv2) | (with_reducible apply Zv3)); (repeat' (first       | (with_reducible exact Zym) | (with_reducible refine Zyn ?_) | (with_reducible refine Zyo ?_) | (with_reducible refine Zv4 ?_)       | (with_reducible refine Zx5 ?_ ?_)       | (with_reducible exact Zt9)       | (with_reducible exact Zvg rfl)       | exact Zvg rfl       | (with_reducible exact Zt8)       | (with_reducible refine Zx4 ?_ ?_)       | exact .c _ rfl       | exact .un _       | exact Zv0 rfl rfl       | exact ZvZ rfl rfl       | exact Zol | exact Zqg       | exact Zqf rfl rfl       | (refine Zpe rfl ?_) | (refine ZrG rfl rfl ?_) | (refine Zt7 rfl rfl rfl ?_)       | (refine Zt5 rfl rfl ?_)       | (with_reducible refine Zt6 ?_) | (with_reducible refine Zv5 ?_)       | (with_reducible refine Zv6 ?_)       | (with_reducible exact ZrE)       | (with_reducible refine ZvY ?_ ?_)       | (with_reducible refine ZvX ?_)       | (with_reducible refine ZxR ?_)       | (with_reducible refine Zx6 ?_)       | (with_reducible exact ZqV)       | (refine ZoP rfl ?_ ?_)       | (refine ZoQ rfl ?_) | (refine ZqU rfl ?_)       | (with_reducible refine ZoO ?_)       | (with_reducible refine Zt2 ?_)       | (with_reducible exact Zt1)       | (with_reducible refine Zt4 ?_)       | (with_reducible exact ZxT)       | (with_reducible refine ZxS ?_ ?_)       | (with_reducible exact ZmT)       | (with_reducible refine Zpd ?_)       | exact ZmT       | (refine Zpd ?_)       | (refine Zt3 ?_)       | (refine ZrF ?_)       | (simp only [cInt,cStr,Zof,cB8,ZmP,ZjW,ZiN,ZmK,ZmJ,cLeg,Zr,Zs,Zg,ZF,Zw,Zbt,ZmI,cAct,ZjX,ZkU,Zlh,Zli,ZjV,ZjY,ZjU])       | (with_unfolding_all rfl))); (all_goals first | (exact Zlm rfl) | exact none); (first | done | fail)):p:=h
theorem xf {p:Prop} (h:p:=by (first | exact Zr5 | (repeat (first | exact Zlu | exact Zl3 | exact hm_e | (refine hm_c Zlu ?_) | (refine hm_c Zl3 ?_) | (refine hm_c hm_e ?_) | exact Zfj (by simp [Zcw,isR]) | (refine Zos ?_) | (refine hm_c (Zfj (by simp [Zcw,isR])) ?_)))); (first | done | fail)):p:=h
theorem xs {p:Prop} (h:p:=by ((refine Zev.weak (CT.ok hy) ?_); (repeat' (first | exact SubA.n | (refine SubA.c ?_ ?_) | exact SubV.c (SubC.r _) | (refine SubV.ag ?_) | exact SubL.n | (refine SubL.c ?_ ?_) | exact SubC.r _ | exact SubC.nil _ | exact SubC.un _))); (first | done | fail)):p:=h
theorem wk3 {p:Prop} (h:p:=by
 (simp only [List.length_cons,List.length_nil,Nat.reduceAdd,Nat.reduceSub,List.replicate_succ,List.replicate_zero,List.cons_append,List.nil_append,go_sem]);
 repeat' (first
  | ((with_reducible refine ZwE ?_ ?_ ?_); (focus (simp [isR])); (focus (simp only [go_sem])); (simp only [List.cons_append,List.nil_append]))
  | ((with_reducible refine ZuK H rfl (by kernel_rfl) ?_); (clear H; intro H; simp only [go_sem,Nat.reduceAdd,Nat.reduceSub,Nat.reduceMul,Nat.reduceLT,Nat.reduceLeDiff,Nat.reduceEqDiff,if_true,eq_self]))
  | ((with_reducible refine Zzl (rhoH H) ?_); (refine ZtW H rfl rfl ?_ ?_ ?_ ?_ ?_ ?_ ?_ ?_); (focus (first | rfl | (simp only [CT.args,List.map_cons,List.map_nil,renA,renC,ren1,Zxi,Zxh,Zxg]; done))); (focus (simp [CT.args,CT.m0,Zhm,Zcw,lowA,lowC,low1,isR])); (focus (first | exact List.nodup_nil | decide)); (focus ((simp only [CT.m0]); (repeat' (first | exact Zlw | (refine Zlv (by rfl) ?_) | (refine Zlx (by rfl) (by rfl) (by simp [Zcw,lowC,low1,isR]) ?_))))); (focus (intro y_; simp [CT.mem,CT.m0])); (focus (intro y_; (simp only [CT.mem]); (repeat (first | exact Zr5 | exact Zlu | exact Zl3 | (refine hm_c Zlu ?_) | (refine hm_c (Zfj (by simp [Zcw,isR])) ?_) | exact Zfj (by simp [Zcw,isR]) | (refine Zos ?_))))); (focus (intro y_; (simp [CT.res,ZgY,Zhm,Zcw,isR]))); (clear H; intro y_ hy H; simp only [CT.res,CT.mem,ZfI,List.drop_succ_cons,List.drop_zero,Option.map_none,go_sem,Nat.reduceAdd,Nat.reduceSub,Nat.reduceMul,Nat.reduceLT,Nat.reduceLeDiff,Nat.reduceEqDiff,if_true,eq_self]))
  | ((with_reducible refine jnS (jnH H) ?_); (first | ((refine ZwT H ?_ ?_ (fun K_ hL H=>?_) (fun o_ H=>?_)); (focus (decide +kernel)); (focus (decide +kernel))) | ((refine Zvw H ?_ ?_ (fun K_ hL H=>?_) (fun o_ H=>?_)); (focus (decide +kernel)); (focus (decide +kernel)))))
  | ((with_reducible refine rhoS (rhoH H) ?_); (refine ZvT H rfl rfl rfl ?_ ?_ ?_ ?_ ?_ ?_ ?_ ?_); (focus (first | rfl | (simp only [CT.args,List.map_cons,List.map_nil,renA,renC,ren1,Zxi,Zxh,Zxg]; done))); (focus (simp [CT.args,CT.m0,Zhm,Zcw,lowA,lowC,low1,isR])); (focus (first | exact List.nodup_nil | decide)); (focus ((simp only [CT.m0]); (repeat' (first | exact Zlw | (refine Zlv (by rfl) ?_) | (refine Zlx (by rfl) (by rfl) (by simp [Zcw,lowC,low1,isR]) ?_))))); (focus (intro y_; simp [CT.mem,CT.m0])); (focus (intro y_; (simp only [CT.mem]); (repeat (first | exact Zr5 | exact Zlu | exact Zl3 | (refine hm_c Zlu ?_) | (refine hm_c (Zfj (by simp [Zcw,isR])) ?_) | exact Zfj (by simp [Zcw,isR]) | (refine Zos ?_))))); (focus (intro y_; (simp [CT.res,ZgY,Zhm,Zcw,isR]))); (clear H; intro y_ hy H; simp only [CT.res,CT.mem,ZfI,List.drop_succ_cons,List.drop_zero,Option.map_none,go_sem,Nat.reduceAdd,Nat.reduceSub,Nat.reduceMul,Nat.reduceLT,Nat.reduceLeDiff,Nat.reduceEqDiff,if_true,eq_self]))
  | ((with_reducible refine ZuM H ?_ ?_); (focus (exact xc)); (clear H; intro z_ H))
  | ((with_reducible refine ZwS H ?_ ?_); (focus (exact xc)); (clear H; intro H))
  | ((with_reducible refine ZwV ?_); intro K_ hK)
  | ((with_reducible refine ZsP ?_))
  | ((with_reducible refine ZqL ?_); simp only [go_sem,Nat.reduceAdd,Nat.reduceSub,Nat.reduceMul,Nat.reduceLT,Nat.reduceLeDiff,Nat.reduceEqDiff,if_true,eq_self])
  | ((with_reducible refine ZuN ?_); (try simp only [Zgw,Zf4]))
  | ((with_reducible refine ZuL ?_); (simp only [ZlJ,ZjS,Zgw,Zf4,if_true,if_false,eq_self,Nat.reduceEqDiff,Nat.one_ne_zero,Nat.zero_ne_one]); (try simp only [bexR,bsr,bsl] at H))
  | ((with_reducible refine ZwU ?_); (try simp only [ZnR,Zlc]))
  | ((with_reducible refine hQ _ _ ?_); (try simp only [bexR,bsr,bsl] at H); replace H:=Hret H; subst H; simp only [Fin,resP,oneP,go_sem,Nat.reduceAdd,Nat.reduceSub,Nat.reduceMul,Nat.reduceLT,Nat.reduceLeDiff,Nat.reduceEqDiff,if_true,eq_self]; exact xc)
  | ((with_reducible refine hQn _ _ ?_); (try simp only [bexR,bsr,bsl] at H); replace H:=Hret H; subst H; simp only [Fin,resP,oneP,go_sem,Nat.reduceAdd,Nat.reduceSub,Nat.reduceMul,Nat.reduceLT,Nat.reduceLeDiff,Nat.reduceEqDiff,if_true,eq_self]; exact xc)
  | ((with_reducible refine Zzd ?_); (refine Zoo (fun hg=>Hc1k H hg ?_) (fun hg=>Hc2k H hg ?_)) <;> (clear H; intro H; simp only [go_sem,Nat.reduceAdd,Nat.reduceSub,Nat.reduceMul,Nat.reduceLT,Nat.reduceLeDiff,Nat.reduceEqDiff,if_true,eq_self]))
  | ((with_reducible refine ZsQ ?_); simp only [ZrR,Zvo,Zvn,Zpm]; (first | (with_reducible refine Zt0 ?_) | (with_reducible refine ZtZ ?_) | ((refine Zoj (fun hg=>Hc1k H hg ?_) (fun hg=>Hc2k H hg ?_)) <;> (clear H; intro H))))
  | ((with_reducible refine idxS ?_); replace H:=Zn4 H; obtain ⟨y_,hy,H⟩:=H; (with_reducible apply Zyj hy); (focus (first | (simp only [go_sem]; done) | (simp only [go_sem]; decide))); (focus (first | rfl | (simp only [go_sem]; rfl))); simp only [go_sem,Nat.reduceAdd,Nat.reduceSub,Nat.reduceMul,Nat.reduceLT,Nat.reduceLeDiff,Nat.reduceEqDiff,if_true,eq_self])
  | ((with_reducible refine idxM ?_); replace H:=Zn4 H; obtain ⟨y_,hy,H⟩:=H; (first | (refine Zwj hy (by rfl) (by first | (simp only [go_sem]; done) | (simp only [go_sem]; decide)) (by first | rfl | (simp only [go_sem]; rfl)) ?_) | (refine Zuk hy (by rfl) (by first | (simp only [go_sem]; done) | (simp only [go_sem]; decide)) (by first | rfl | (simp only [go_sem]; rfl)) ?_)); simp only [go_sem,Nat.reduceAdd,Nat.reduceSub,Nat.reduceMul,Nat.reduceLT,Nat.reduceLeDiff,Nat.reduceEqDiff,if_true,eq_self])
  | ((with_reducible refine idxB ?_); replace H:=Zn4 H; obtain ⟨y_,hy,H⟩:=H; (with_reducible apply Zwk hy); (focus (simp only [go_sem])); simp only [go_sem,Nat.reduceAdd,Nat.reduceSub,Nat.reduceMul,Nat.reduceLT,Nat.reduceLeDiff,Nat.reduceEqDiff,if_true,eq_self])
  | ((with_reducible refine ZyZ ?_); replace H:=Zn4 H; obtain ⟨y_,hy,H⟩:=H; (first | ((with_reducible apply ZmL); (focus (exact CT.ok hy)); (focus (simp [isCA,isC,isC1])); (focus (exact Nat.le_of_ble_eq_true rfl)); (focus (exact xf)); (focus (first | exact Zya rfl | exact Zyc rfl | exact Zvl rfl | exact Zvm rfl | exact (fun h=>(by cases h)) | (simp [CT.res,ZgY,Zhm,Zcw,isR]))); (simp only [CT.res,CT.mem,go_sem,Nat.reduceAdd,Nat.reduceSub,Nat.reduceMul,Nat.reduceLT,Nat.reduceLeDiff,Nat.reduceEqDiff,if_true,eq_self])) | ((with_reducible apply ZmL); (focus (exact xs)); (focus (simp [isCA,isC,isC1])); (focus (exact Nat.le_of_ble_eq_true rfl)); (focus (exact xf)); (focus (first | exact Zya rfl | exact Zyc rfl | exact Zvl rfl | exact Zvm rfl | exact (fun h=>(by cases h)) | (simp [CT.res,ZgY,Zhm,Zcw,isR]))); (simp only [CT.res,CT.mem,go_sem,Nat.reduceAdd,Nat.reduceSub,Nat.reduceMul,Nat.reduceLT,Nat.reduceLeDiff,Nat.reduceEqDiff,if_true,eq_self])) | ((with_reducible apply Zrv); (focus (first | (simp only [Zk1,Zmq,ZkK,Zmp,Zir,ZpD,ZpC,ZjC,Zh3,Zib,List.forall_mem_nil,true_and,and_true,if_true]; (first | exact CT.ok hy | (simp only [Zn8,ZlO,isC,isC1,true_and,and_true,if_true]; exact CT.ok hy))) | (simp only [Zk1,Zmq,ZkK,Zmp,Zir,ZpD,ZpC,ZjC,Zh3,Zib,List.forall_mem_nil,true_and,and_true,if_true]; (first | (exact xs) | (simp only [Zn8,ZlO,isC,isC1,true_and,and_true,if_true]; (exact xs)))) | (simp only [Zk1,Zmq,ZkK,Zmp,Zir,ZpD,ZpC,ZjC,Zh3,Zib,List.forall_mem_nil,true_and,and_true,if_true]; (exact xs)))); (focus (exact Nat.le_of_ble_eq_true rfl)); (focus (exact xf)); (focus (first | exact Zyb rfl | exact (fun _=>rfl) | (simp [CT.res,ZgY,Zhm,Zcw,isF]))); (simp only [CT.res,CT.mem,go_sem,Nat.reduceAdd,Nat.reduceSub,Nat.reduceMul,Nat.reduceLT,Nat.reduceLeDiff,Nat.reduceEqDiff,if_true,eq_self]))))
  | ((with_reducible refine slcS ?_); replace H:=Hchk H; obtain ⟨hc,H⟩:=H; (first | ((with_reducible apply ZuZ hc); (focus rfl); (focus rfl); (focus (first | (simp only [go_sem]; done) | (simp only [go_sem]; decide))); (focus (first | rfl | (intro x_; rfl))); simp only [go_sem,Nat.reduceAdd,Nat.reduceSub,Nat.reduceMul,Nat.reduceLT,Nat.reduceLeDiff,Nat.reduceEqDiff,if_true,eq_self]) | ((refine Zth hc (by rfl) (by rfl) (by rfl) (by first | (simp only [go_sem]; done) | (simp only [go_sem]; decide)) (by first | rfl | (simp only [go_sem]; rfl)) ?_); simp only [go_sem,Nat.reduceAdd,Nat.reduceSub,Nat.reduceMul,Nat.reduceLT,Nat.reduceLeDiff,Nat.reduceEqDiff,if_true,eq_self]) | ((with_reducible apply Zti hc); (focus rfl); (focus rfl); (focus (simp only [go_sem])); simp only [go_sem,Nat.reduceAdd,Nat.reduceSub,Nat.reduceMul,Nat.reduceLT,Nat.reduceLeDiff,Nat.reduceEqDiff,if_true,eq_self])))
  | ((with_reducible refine appS ?_); replace H:=Hchk H; obtain ⟨hc,H⟩:=H; (first | (refine ZvO hc (by first | (simp only [go_sem]; done) | (simp only [go_sem]; rfl)) (by first | (simp only [go_sem]; done) | (simp only [go_sem]; rfl)) (by first | (simp only [go_sem]; done) | (simp only [go_sem]; rfl)) (by first | (simp only [go_sem]; done) | (simp only [go_sem]; rfl)) (by rfl) (by first | rfl | exact Ztk (by rfl) (by rfl) (by rfl)) rfl rfl (by intro x_; rfl) rfl ?_) | (refine ZvP hc (by first | (simp only [go_sem]; done) | (simp only [go_sem]; rfl)) (by first | (simp only [go_sem]; done) | (simp only [go_sem]; rfl)) (by first | (simp only [go_sem]; done) | (simp only [go_sem]; rfl)) (by first | (simp only [go_sem]; done) | (simp only [go_sem]; rfl)) (by first | rfl | exact Ztk (by rfl) (by rfl) (by rfl)) rfl rfl (by intro x_; rfl) ?_)); simp only [go_sem,Nat.reduceAdd,Nat.reduceSub,Nat.reduceMul,Nat.reduceLT,Nat.reduceLeDiff,Nat.reduceEqDiff,if_true,eq_self])
  | ((with_reducible refine mkS ?_); replace H:=Hchk H; obtain ⟨hc,H⟩:=H; (refine Zyp hc (by first | (simp only [go_sem]; done) | (simp only [go_sem]; rfl)) (by first | (simp only [go_sem]; done) | (simp only [go_sem]; rfl)) (by first | (simp only [go_sem]; done) | (simp only [go_sem]; rfl)) (by first | (simp only [go_sem]; done) | (simp only [go_sem]; rfl)) rfl rfl ?_); simp only [go_sem,Nat.reduceAdd,Nat.reduceSub,Nat.reduceMul,Nat.reduceLT,Nat.reduceLeDiff,Nat.reduceEqDiff,if_true,eq_self])
  | ((with_reducible refine optS ?_); (first | (with_reducible refine ZpH (by decide) ?_) | (replace H:=Hchk H; obtain ⟨hc,H⟩:=H; (first | (refine ZpH hc ?_) | (refine ZpH (of_decide_eq_true hc) ?_) | (refine ZpH ⟨rfl,of_decide_eq_true hc⟩ ?_)))); simp only [go_sem,Nat.reduceAdd,Nat.reduceSub,Nat.reduceMul,Nat.reduceLT,Nat.reduceLeDiff,Nat.reduceEqDiff,if_true,eq_self])
  | ((with_reducible refine Zze ?_); (refine ZsS (Hlp H) ?_ ?_); (focus (simp only [ZP.T,ZP.M,U_s,U_z]; exact xc)); (clear H; intro n_ s_ H K_ hL; replace H:=Hrd H; simp only [ZP.T,ZP.M,U_s,U_z]))
  | ((with_reducible refine ZuJ (by kernel_rfl) ?_); simp only [go_sem,Nat.reduceAdd,Nat.reduceSub,Nat.reduceMul,Nat.reduceLT,Nat.reduceLeDiff,Nat.reduceEqDiff,if_true,eq_self])
  | ((with_reducible refine Zqj (by kernel_rfl) ?_); (try simp only [Zgw,Zf4]))
  | ((with_reducible refine hK _ _ ?_); clear hK)
  | (clear hK; (with_reducible refine hK _ _ ?_); clear hK)
  | (clear hK; clear hK; (with_reducible refine hK _ _ ?_); clear hK)
  | (clear hK; clear hK; clear hK; (with_reducible refine hK _ _ ?_); clear hK)
  | (clear hK; clear hK; clear hK; clear hK; (with_reducible refine hK _ _ ?_); clear hK)
  | (clear hK; clear hK; clear hK; clear hK; clear hK; (with_reducible refine hK _ _ ?_); clear hK)
  | ((with_reducible refine And.intro ?_ ?_); omega)
  | (simp only [Zsv,Zst,Zsu,Zrs]; simp only [go_sem,Nat.reduceAdd,Nat.reduceSub,Nat.reduceMul,Nat.reduceLT,Nat.reduceLeDiff,Nat.reduceEqDiff,if_true,eq_self])
  | ((first | simp only [lit3 hy,Option.map_some,List.drop_zero,go_sem] | simp only [Zr6 hy,Zm2 hy,Zpt hy,go_sem,Nat.reduceAdd,Nat.reduceSub,Nat.reduceMul,Nat.reduceLT,Nat.reduceLeDiff,Nat.reduceEqDiff,if_true,eq_self] | simp only [Zm2 hy,Zpt hy,go_sem,Nat.reduceAdd,Nat.reduceSub,Nat.reduceMul,Nat.reduceLT,Nat.reduceLeDiff,Nat.reduceEqDiff,if_true,eq_self]))
  | ((with_reducible replace H:=HexL H); (with_reducible refine hL _ _ _ H ?_); (try simp only [ZP.T,ZP.M,U_s,U_z]); exact xc)
  | ((with_reducible replace H:=HexL H); clear hL; (with_reducible refine hL _ _ _ H ?_); (try simp only [ZP.T,ZP.M,U_s,U_z]); exact xc)
  | ((with_reducible refine jnX H hL ?_); exact xc)
  | (with_reducible exact (ZyX H).elim)
  | ((with_reducible replace H:=rgH H); obtain ⟨y_,hy,H⟩:=H; (first | simp only [lit3 hy,Option.map_some,List.drop_zero,go_sem] | simp only [Zr6 hy,Zm2 hy,Zpt hy,go_sem,Nat.reduceAdd,Nat.reduceSub,Nat.reduceMul,Nat.reduceLT,Nat.reduceLeDiff,Nat.reduceEqDiff,if_true,eq_self] | simp only [Zm2 hy,Zpt hy,go_sem,Nat.reduceAdd,Nat.reduceSub,Nat.reduceMul,Nat.reduceLT,Nat.reduceLeDiff,Nat.reduceEqDiff,if_true,eq_self])))):p:=h
end Go.Proofs.YtmcdjilbkmhfoaaGreat
