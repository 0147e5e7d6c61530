/- A part of the proof of the statement in the last file of this claim: texts on the language of the program and on its functions. No condition. -/
import Derived.Test.YtkfbakhnpfmfmaaGreatDoorCFnActRead23
import Derived.Test.YtkfbakhnpfmfmaaGreatDoorCFnActRead20
import Derived.Test.YtkfbakhnpfmfmaaGreatDoorCFnActRead24
set_option linter.unusedVariables false
set_option linter.unusedSimpArgs false
set_option linter.unusedSectionVars false
namespace Go.Proofs.YtkfbakhnpfmfmaaGreatDoor
set_option maxRecDepth 10000
open Go.RowKit
set_option linter.unusedVariables false
theorem actRead (code:List YB8) (hb:∀ x∈code,0≤x.v∧x.v≤255):Zdf code=some true:=by
 unfold Zdf ZgW
 rw [Option.bind_some]
 by_cases hbig:4096<(code.length:Int)
 ·rw [decide_eq_true hbig]; rfl
 obtain ⟨a,ha,hp⟩:=Zns (code:=code) (by omega) hb
 obtain ⟨v,hi,hs⟩:=Zqm (b60 hp.to_) (b60 hp.from_) (by have:=hp.sides; unfold NN; omega)
 rw [decide_eq_false hbig,cond_false,ha,Option.bind_some]
 cases v with
 | true=>
  obtain ⟨s,h⟩:=Zwf (ZuH (b60 hp.to_) (b60 hp.from_) (by have:=hp.sides; unfold NN; omega) hi) hi hs
  simp [h.fi,h.pi,hi,hs]
 | false=>
  have hf:Zq a=some ⟨#[]⟩:=by unfold Zq; rw [hi]; rfl
  obtain ⟨r,hr,_,hne⟩:=Zpx (s:=⟨#[]⟩) (by decide)
  have h2:r.2=false:=by
   cases h:r.2 with
   | false=>rfl
   | true=>have:=hne h; simp at this
  simp [hf,hr,hi,hs,h2]
end Go.Proofs.YtkfbakhnpfmfmaaGreatDoor
