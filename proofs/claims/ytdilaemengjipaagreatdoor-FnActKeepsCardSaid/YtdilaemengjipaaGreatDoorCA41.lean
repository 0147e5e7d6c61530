/- A part of the proof of the statement in the last file of this claim: texts on the language of the program and on its functions. No condition. -/
import Derived.Test.YtdilaemengjipaaGreatDoorCA40
import Derived.Test.YtdilaemengjipaaGreatDoorCA17
import Derived.Test.YtdilaemengjipaaGreatDoorCA39
import Derived.Test.YtdilaemengjipaaGreatDoorCA1
set_option linter.unusedVariables false
set_option linter.unusedSimpArgs false
set_option linter.unusedSectionVars false
open Option renaming some->YH,none->YI
open Bool renaming true->YJ,false->YK
open Decidable renaming decide->YL
namespace Go.Proofs.YtdilaemengjipaaGreatDoor
open Option renaming bind_some->VS
set_option maxRecDepth 10000
open Go.RowKit
theorem actKeeps(code:List YR)(hb:∀x∈code,0<=x.v/\x.v<=255):nY code=YH true:=by
 unfold nY uv;rw[VS]
 by_cases Ca:4096<(code.length:Int)
 ·rw[X1 Ca];rfl
 rw[X2 Ca,X6];obtain⟨⟨o,a⟩,e,hA,hp⟩:=Ku (code:=code) X9 hb;have hA:OA o:=hA;have hp:PF a.aQ:=hp.pf;rw[e,VS];obtain⟨x,c,ex,_,hx⟩:=Mo (o:=o) (a:=a) hA.of hp;simp only[ex,VS]
 rcases hx with⟨hc,rfl⟩ |⟨rfl,hD⟩
 ·rw[X2 hc]
  simp only[Bool.not_false,X5,Py hA.of,VS]
 obtain⟨hOx,hVx⟩:=Mp hA.of hp hD;have hj:=Fw hD;have hjo:=hA.of.aF;have hg:aB x.aF (o.aF.length:Int)=YH a:=by rw[hj,aS];simp
 have hl:(x.aF.length:Int)=aI ((o.aF.length:Int)+1):=by rw[hj,List.length_append,aR X9];simp
 obtain⟨s,hs⟩:=ZdH hp.fit.1 hp.fit.2.1 hp.fit.2.2 hD.act;have hV:jv x=YH true:=by rw[zZ hOx.fit,hVx]
 simp only[decide_true,Bool.not_true,X6,hV,VS,X5,X1 hl,hg,hs,X1 (QV hD),Tp hOx hVx]
 by_cases h6:a.kind=6
 ·rw[X1 h6];rfl
 ·rw[X2 h6,X6,Kg hOx.lines,Kg hA.of.lines]
  simp only[VS,X1 (NX hD h6)]
end Go.Proofs.YtdilaemengjipaaGreatDoor
