/- A part of the proof of the statement in the last file of this claim: texts on the language of the program and on its functions. No condition. -/
import Derived.Test.YtbalgkakkoocjaaGreatCJ6
import Derived.Test.YtbalgkakkoocjaaGreatCJ5
import Derived.Test.YtbalgkakkoocjaaGreatCJ17
import Derived.Test.YtbalgkakkoocjaaGreatCJ14
import Derived.Test.YtbalgkakkoocjaaGreatCJ1
set_option linter.unusedVariables false
set_option linter.unusedSimpArgs false
set_option linter.unusedSectionVars false
open Option renaming some->ZA,none->ZB
open Bool renaming true->ZC,false->ZD
open Decidable renaming decide->ZE
open Go.Proofs.Tryz
set_option maxHeartbeats 40000000
namespace Go.Proofs.YtbalgkakkoocjaaGreat
set_option maxRecDepth 10000
open Go.RowKit
def iR(l:List ZJ)(s0:Int×(List bM)×(List Int)×Int×(List ay)×(List aj)×(List aw)×Int×(List bc)×(List Int)×Int×(List bF)×(List bH)×(List Int)×(List aU)×(List aM)×(List ZJ)):Option ((Int×(List bM)×(List Int)×Int×(List ay)×(List aj)×(List aw)×Int×(List bc)×(List Int)×Int×(List bF)×(List bH)×(List Int)×(List aU)×(List aM)×(List ZJ))⊕(((List bM)×(List Int)×Int×(List ay)×(List aj)×(List aw)×Int×(List bc)×(List Int)×Int×(List bF)×(List bH)×(List Int)×(List aU)×(List aM)×(List ZJ))⊕(ZI×Int))):=
 cond (ZE (s0.1<(l.length:Int)))
 (cond (ZE (s0.1<150))
 ((vD (.un::.sl (l.map ZK)::.un::.un::.be 0 0 0::.un::.be 1 0 0::vi s0.1::(U 35 [])) [ZA ⟨.of 40,16,[[.v (.slice ZB 0 0),.v (.slice ZB 0 0),vi 0,.v (.slice ZB 0 0),.v (.slice ZB 0 0),.v (.slice ZB 0 0),vi 0,.v (.slice ZB 0 0),.v (.slice ZB 0 0),vi 0,.v (.slice ZB 0 0),.v (.slice ZB 0 0),.v (.slice ZB 0 0),.v (.slice ZB 0 0),.v (.slice ZB 0 0),.v (.slice ZB 0 0)]]⟩,ZA ⟨.of 40,16,[[.sl (s0.2.1.map br),.sl (s0.2.2.1.map aI),vi s0.2.2.2.1,.sl (s0.2.2.2.2.1.map aY),.sl (s0.2.2.2.2.2.1.map aC),.sl (s0.2.2.2.2.2.2.1.map aS),vi s0.2.2.2.2.2.2.2.1,.sl (s0.2.2.2.2.2.2.2.2.1.map bt),.sl (s0.2.2.2.2.2.2.2.2.2.1.map aI),vi s0.2.2.2.2.2.2.2.2.2.2.1,.sl (s0.2.2.2.2.2.2.2.2.2.2.2.1.map b6),.sl (s0.2.2.2.2.2.2.2.2.2.2.2.2.1.map b9),.sl (s0.2.2.2.2.2.2.2.2.2.2.2.2.2.1.map aI),.sl (s0.2.2.2.2.2.2.2.2.2.2.2.2.2.2.2.1.map bq),.sl (s0.2.2.2.2.2.2.2.2.2.2.2.2.2.2.1.map bD),.sl (s0.2.2.2.2.2.2.2.2.2.2.2.2.2.2.2.2.map ZK)]]⟩]).bind λ_=>
 (aA l s0.1).bind λy2=>
 (ju (⟨(⟨(⟨s0.2.1,s0.2.2.1,s0.2.2.2.1⟩:ak),s0.2.2.2.2.1,s0.2.2.2.2.2.1,s0.2.2.2.2.2.2.1,s0.2.2.2.2.2.2.2.1,s0.2.2.2.2.2.2.2.2.1,s0.2.2.2.2.2.2.2.2.2.1,s0.2.2.2.2.2.2.2.2.2.2.1⟩:az),s0.2.2.2.2.2.2.2.2.2.2.2.1,s0.2.2.2.2.2.2.2.2.2.2.2.2.1,s0.2.2.2.2.2.2.2.2.2.2.2.2.2.1,s0.2.2.2.2.2.2.2.2.2.2.2.2.2.2.2.1,s0.2.2.2.2.2.2.2.2.2.2.2.2.2.2.1,s0.2.2.2.2.2.2.2.2.2.2.2.2.2.2.2.2⟩:ZI) y2).bind λy3=>
 cond (!decide (y3.2=0))
 (ZA (.inr (.inr ((⟨(⟨(⟨s0.2.1,s0.2.2.1,s0.2.2.2.1⟩:ak),s0.2.2.2.2.1,s0.2.2.2.2.2.1,s0.2.2.2.2.2.2.1,s0.2.2.2.2.2.2.2.1,s0.2.2.2.2.2.2.2.2.1,s0.2.2.2.2.2.2.2.2.2.1,s0.2.2.2.2.2.2.2.2.2.2.1⟩:az),s0.2.2.2.2.2.2.2.2.2.2.2.1,s0.2.2.2.2.2.2.2.2.2.2.2.2.1,s0.2.2.2.2.2.2.2.2.2.2.2.2.2.1,s0.2.2.2.2.2.2.2.2.2.2.2.2.2.2.2.1,s0.2.2.2.2.2.2.2.2.2.2.2.2.2.2.1,s0.2.2.2.2.2.2.2.2.2.2.2.2.2.2.2.2⟩:ZI),s0.1))))
 (ZA (.inl ((aH (s0.1+1)),y3.1.world.aa.aB,y3.1.world.aa.off,y3.1.world.aa.change,y3.1.world.ae,y3.1.world.aq,y3.1.world.ah,y3.1.world.now,y3.1.world.aJ,y3.1.world.skip,y3.1.world.aT,y3.1.aP,y3.1.aR,y3.1.aF,y3.1.lines,y3.1.aG,y3.1.aE))))
 (ZA (.inr (.inl (s0.2.1,s0.2.2.1,s0.2.2.2.1,s0.2.2.2.2.1,s0.2.2.2.2.2.1,s0.2.2.2.2.2.2.1,s0.2.2.2.2.2.2.2.1,s0.2.2.2.2.2.2.2.2.1,s0.2.2.2.2.2.2.2.2.2.1,s0.2.2.2.2.2.2.2.2.2.2.1,s0.2.2.2.2.2.2.2.2.2.2.2.1,s0.2.2.2.2.2.2.2.2.2.2.2.2.1,s0.2.2.2.2.2.2.2.2.2.2.2.2.2.1,s0.2.2.2.2.2.2.2.2.2.2.2.2.2.2.1,s0.2.2.2.2.2.2.2.2.2.2.2.2.2.2.2.1,s0.2.2.2.2.2.2.2.2.2.2.2.2.2.2.2.2)))))
 (ZA (.inr (.inl (s0.2.1,s0.2.2.1,s0.2.2.2.1,s0.2.2.2.2.1,s0.2.2.2.2.2.1,s0.2.2.2.2.2.2.1,s0.2.2.2.2.2.2.2.1,s0.2.2.2.2.2.2.2.2.1,s0.2.2.2.2.2.2.2.2.2.1,s0.2.2.2.2.2.2.2.2.2.2.1,s0.2.2.2.2.2.2.2.2.2.2.2.1,s0.2.2.2.2.2.2.2.2.2.2.2.2.1,s0.2.2.2.2.2.2.2.2.2.2.2.2.2.1,s0.2.2.2.2.2.2.2.2.2.2.2.2.2.2.1,s0.2.2.2.2.2.2.2.2.2.2.2.2.2.2.2.1,s0.2.2.2.2.2.2.2.2.2.2.2.2.2.2.2.2))))
instance (l:List ZJ):bj (iR l):=⟨λs0=>(.un::.sl (l.map ZK)::.un::.un::.be 0 0 0::.un::.be 1 0 0::vi s0.1::(U 35 [])),λs0=>[ZA ⟨.of 40,16,[[.v (.slice ZB 0 0),.v (.slice ZB 0 0),vi 0,.v (.slice ZB 0 0),.v (.slice ZB 0 0),.v (.slice ZB 0 0),vi 0,.v (.slice ZB 0 0),.v (.slice ZB 0 0),vi 0,.v (.slice ZB 0 0),.v (.slice ZB 0 0),.v (.slice ZB 0 0),.v (.slice ZB 0 0),.v (.slice ZB 0 0),.v (.slice ZB 0 0)]]⟩,ZA ⟨.of 40,16,[[.sl (s0.2.1.map br),.sl (s0.2.2.1.map aI),vi s0.2.2.2.1,.sl (s0.2.2.2.2.1.map aY),.sl (s0.2.2.2.2.2.1.map aC),.sl (s0.2.2.2.2.2.2.1.map aS),vi s0.2.2.2.2.2.2.2.1,.sl (s0.2.2.2.2.2.2.2.2.1.map bt),.sl (s0.2.2.2.2.2.2.2.2.2.1.map aI),vi s0.2.2.2.2.2.2.2.2.2.2.1,.sl (s0.2.2.2.2.2.2.2.2.2.2.2.1.map b6),.sl (s0.2.2.2.2.2.2.2.2.2.2.2.2.1.map b9),.sl (s0.2.2.2.2.2.2.2.2.2.2.2.2.2.1.map aI),.ms 2,.sl (s0.2.2.2.2.2.2.2.2.2.2.2.2.2.2.1.map bD),.ms 3]]⟩,ZA ⟨.of 44,7,s0.2.2.2.2.2.2.2.2.2.2.2.2.2.2.2.1.map bq⟩,ZA ⟨.of 48,13,s0.2.2.2.2.2.2.2.2.2.2.2.2.2.2.2.2.map ZK⟩]⟩
def rL(o:ZI)(l:List ZJ):Option (ZI×Int):=
 (iS o).bind λy1=>
 (aD (iR l) NN (0,y1.world.aa.aB,y1.world.aa.off,y1.world.aa.change,y1.world.ae,y1.world.aq,y1.world.ah,y1.world.now,y1.world.aJ,y1.world.skip,y1.world.aT,(y1.aP:List bF),(y1.aR:List bH),(y1.aF:List Int),(y1.lines:List aU),y1.aG,y1.aE)).bind (bm (λo0=>
 cond (ZE (150<(l.length:Int)))
 (ZA ((⟨(⟨(⟨o0.1,o0.2.1,o0.2.2.1⟩:ak),o0.2.2.2.1,o0.2.2.2.2.1,o0.2.2.2.2.2.1,o0.2.2.2.2.2.2.1,o0.2.2.2.2.2.2.2.1,o0.2.2.2.2.2.2.2.2.1,o0.2.2.2.2.2.2.2.2.2.1⟩:az),o0.2.2.2.2.2.2.2.2.2.2.1,o0.2.2.2.2.2.2.2.2.2.2.2.1,o0.2.2.2.2.2.2.2.2.2.2.2.2.1,o0.2.2.2.2.2.2.2.2.2.2.2.2.2.2.1,o0.2.2.2.2.2.2.2.2.2.2.2.2.2.1,o0.2.2.2.2.2.2.2.2.2.2.2.2.2.2.2⟩:ZI),150))
 (ZA ((⟨(⟨(⟨o0.1,o0.2.1,o0.2.2.1⟩:ak),o0.2.2.2.1,o0.2.2.2.2.1,o0.2.2.2.2.2.1,o0.2.2.2.2.2.2.1,o0.2.2.2.2.2.2.2.1,o0.2.2.2.2.2.2.2.2.1,o0.2.2.2.2.2.2.2.2.2.1⟩:az),o0.2.2.2.2.2.2.2.2.2.2.1,o0.2.2.2.2.2.2.2.2.2.2.2.1,o0.2.2.2.2.2.2.2.2.2.2.2.2.1,o0.2.2.2.2.2.2.2.2.2.2.2.2.2.2.1,o0.2.2.2.2.2.2.2.2.2.2.2.2.2.1,o0.2.2.2.2.2.2.2.2.2.2.2.2.2.2.2⟩:ZI),(l.length:Int)))) (λr=>ZA r))
instance (o:ZI)(l:List ZJ):CT prog (rL o l):=⟨21,[.ag (ZM o),.sl (l.map ZK)],[],λr=>.tu [.ag [.sl (r.1.world.aa.aB.map br),.sl (r.1.world.aa.off.map aI),vi r.1.world.aa.change,.sl (r.1.world.ae.map aY),.sl (r.1.world.aq.map aC),.sl (r.1.world.ah.map aS),vi r.1.world.now,.sl (r.1.world.aJ.map bt),.sl (r.1.world.skip.map aI),vi r.1.world.aT,.sl (r.1.aP.map b6),.sl (r.1.aR.map b9),.sl (r.1.aF.map aI),.sl (r.1.aG.map bq),.sl (r.1.lines.map bD),.sl (r.1.aE.map ZK)],vi r.2],λr=>[],cw (rL.eq_1 ..) func21 ntmps21 results21⟩
end Go.Proofs.YtbalgkakkoocjaaGreat
