/- A part of the proof of the statement in the last file of this claim: texts on the language of the program and on its functions. No condition. -/
import Derived.Test.YtbalgkakkoocjaaGreatCJ6
import Derived.Test.YtbalgkakkoocjaaGreatCJ5
import Derived.Test.YtbalgkakkoocjaaGreatCJ19
import Derived.Test.YtbalgkakkoocjaaGreatCJ4
import Derived.Test.YtbalgkakkoocjaaGreatCJ10
import Derived.Test.YtbalgkakkoocjaaGreatCJ7
import Derived.Test.YtbalgkakkoocjaaGreatCJ20
import Derived.Test.YtbalgkakkoocjaaGreatCJ1
set_option linter.unusedVariables false
set_option linter.unusedSimpArgs false
set_option linter.unusedSectionVars false
open Option renaming some->ZA,none->ZB
open Bool renaming true->ZC,false->ZD
open Decidable renaming decide->ZE
open Go.Proofs.Tryz
set_option maxHeartbeats 40000000
namespace Go.Proofs.YtbalgkakkoocjaaGreat
set_option maxRecDepth 10000
open Go.RowKit
def ie(l:List ZJ)(s0:Int×Int×Int×Int×Int×(List bM)×(List Int)×(List ay)×(List aj)×(List aw)×(List bc)×(List Int)×(List bF)×(List bH)×(List Int)×(List aM)×(List aU)×(List ZJ)):Option ((Int×Int×Int×Int×Int×(List bM)×(List Int)×(List ay)×(List aj)×(List aw)×(List bc)×(List Int)×(List bF)×(List bH)×(List Int)×(List aM)×(List aU)×(List ZJ))⊕(Int×Int×Int×Int×(List bM)×(List Int)×(List ay)×(List aj)×(List aw)×(List bc)×(List Int)×(List bF)×(List bH)×(List Int)×(List aM)×(List aU)×(List ZJ))):=
 cond (ZE (s0.2.1<((cZ l 0 (if 150<(l.length:Int)then 150 else(l.length:Int))).length:Int)))
 ((aA (cZ l 0 (if 150<(l.length:Int)then 150 else(l.length:Int))) s0.2.1).bind λy2=>
 (dT (⟨(⟨(⟨s0.2.2.2.2.2.1,s0.2.2.2.2.2.2.1,s0.2.2.1⟩:ak),s0.2.2.2.2.2.2.2.1,s0.2.2.2.2.2.2.2.2.1,s0.2.2.2.2.2.2.2.2.2.1,s0.2.2.2.1,s0.2.2.2.2.2.2.2.2.2.2.1,s0.2.2.2.2.2.2.2.2.2.2.2.1,s0.2.2.2.2.1⟩:az),s0.2.2.2.2.2.2.2.2.2.2.2.2.1,s0.2.2.2.2.2.2.2.2.2.2.2.2.2.1,s0.2.2.2.2.2.2.2.2.2.2.2.2.2.2.1,s0.2.2.2.2.2.2.2.2.2.2.2.2.2.2.2.1,s0.2.2.2.2.2.2.2.2.2.2.2.2.2.2.2.2.1,s0.2.2.2.2.2.2.2.2.2.2.2.2.2.2.2.2.2⟩:ZI) y2).bind λy3=>
 cond (!decide (y3.2=0))
 (ZA (.inr (s0.1,s0.2.2.1,s0.2.2.2.1,s0.2.2.2.2.1,s0.2.2.2.2.2.1,s0.2.2.2.2.2.2.1,s0.2.2.2.2.2.2.2.1,s0.2.2.2.2.2.2.2.2.1,s0.2.2.2.2.2.2.2.2.2.1,s0.2.2.2.2.2.2.2.2.2.2.1,s0.2.2.2.2.2.2.2.2.2.2.2.1,s0.2.2.2.2.2.2.2.2.2.2.2.2.1,s0.2.2.2.2.2.2.2.2.2.2.2.2.2.1,s0.2.2.2.2.2.2.2.2.2.2.2.2.2.2.1,s0.2.2.2.2.2.2.2.2.2.2.2.2.2.2.2.1,s0.2.2.2.2.2.2.2.2.2.2.2.2.2.2.2.2.1,s0.2.2.2.2.2.2.2.2.2.2.2.2.2.2.2.2.2)))
 (ZA (.inl ((aH (s0.1+1)),(aH (s0.2.1+1)),y3.1.world.aa.change,y3.1.world.now,y3.1.world.aT,y3.1.world.aa.aB,y3.1.world.aa.off,y3.1.world.ae,y3.1.world.aq,y3.1.world.ah,y3.1.world.aJ,y3.1.world.skip,y3.1.aP,y3.1.aR,y3.1.aF,y3.1.aG,y3.1.lines,y3.1.aE))))
 (ZA (.inr (s0.1,s0.2.2.1,s0.2.2.2.1,s0.2.2.2.2.1,s0.2.2.2.2.2.1,s0.2.2.2.2.2.2.1,s0.2.2.2.2.2.2.2.1,s0.2.2.2.2.2.2.2.2.1,s0.2.2.2.2.2.2.2.2.2.1,s0.2.2.2.2.2.2.2.2.2.2.1,s0.2.2.2.2.2.2.2.2.2.2.2.1,s0.2.2.2.2.2.2.2.2.2.2.2.2.1,s0.2.2.2.2.2.2.2.2.2.2.2.2.2.1,s0.2.2.2.2.2.2.2.2.2.2.2.2.2.2.1,s0.2.2.2.2.2.2.2.2.2.2.2.2.2.2.2.1,s0.2.2.2.2.2.2.2.2.2.2.2.2.2.2.2.2.1,s0.2.2.2.2.2.2.2.2.2.2.2.2.2.2.2.2.2)))
instance (l:List ZJ):bj (ie l):=⟨λs0=>(U 4 (.be 0 0 0::.un::.be 1 0 0::vi s0.1::(U 10 (.sl ((cZ l 0 (if 150<(l.length:Int)then 150 else(l.length:Int))).map ZK)::vi ((cZ l 0 (if 150<(l.length:Int)then 150 else(l.length:Int))).length:Int)::vi s0.2.1::(U 17 []))))),λs0=>[ZA ⟨.of 40,16,[[.v (.slice ZB 0 0),.v (.slice ZB 0 0),vi 0,.v (.slice ZB 0 0),.v (.slice ZB 0 0),.v (.slice ZB 0 0),vi 0,.v (.slice ZB 0 0),.v (.slice ZB 0 0),vi 0,.v (.slice ZB 0 0),.v (.slice ZB 0 0),.v (.slice ZB 0 0),.v (.slice ZB 0 0),.v (.slice ZB 0 0),.v (.slice ZB 0 0)]]⟩,ZA ⟨.of 40,16,[[.ms 2,.ms 3,vi s0.2.2.1,.ms 4,.ms 5,.ms 6,vi s0.2.2.2.1,.ms 7,.ms 8,vi s0.2.2.2.2.1,.ms 9,.ms 10,.ms 11,.ms 12,.ms 13,.ms 14]]⟩,ZA ⟨.of 174,6,s0.2.2.2.2.2.1.map br⟩,ZA ⟨.of 3,1,s0.2.2.2.2.2.2.1.map aI⟩,ZA ⟨⟨155,ZA 46⟩,11,s0.2.2.2.2.2.2.2.1.map aY⟩,ZA ⟨.of 177,4,s0.2.2.2.2.2.2.2.2.1.map aC⟩,ZA ⟨.of 46,2,s0.2.2.2.2.2.2.2.2.2.1.map aS⟩,ZA ⟨.of 181,6,s0.2.2.2.2.2.2.2.2.2.2.1.map bt⟩,ZA ⟨.of 3,1,s0.2.2.2.2.2.2.2.2.2.2.2.1.map aI⟩,ZA ⟨.of 104,2,s0.2.2.2.2.2.2.2.2.2.2.2.2.1.map b6⟩,ZA ⟨.of 107,4,s0.2.2.2.2.2.2.2.2.2.2.2.2.2.1.map b9⟩,ZA ⟨.of 3,1,s0.2.2.2.2.2.2.2.2.2.2.2.2.2.2.1.map aI⟩,ZA ⟨⟨44,ZA 3⟩,7,s0.2.2.2.2.2.2.2.2.2.2.2.2.2.2.2.1.map bq⟩,ZA ⟨.of 111,4,s0.2.2.2.2.2.2.2.2.2.2.2.2.2.2.2.2.1.map bD⟩,ZA ⟨⟨48,ZA 3⟩,13,s0.2.2.2.2.2.2.2.2.2.2.2.2.2.2.2.2.2.map ZK⟩]⟩
def gq(o:ZI)(l:List ZJ):Option (ZI×Int):=
 (cP o).bind λy1=>
 (dg (iC 0 (if 150<(l.length:Int)then 150 else(l.length:Int)) l.length)).bind λ_=>
 (aD (ie l) NN (0,0,y1.world.aa.change,y1.world.now,y1.world.aT,y1.world.aa.aB,y1.world.aa.off,y1.world.ae,y1.world.aq,y1.world.ah,y1.world.aJ,y1.world.skip,y1.aP,y1.aR,y1.aF,y1.aG,y1.lines,y1.aE)).bind (λo0=>
 ZA ((⟨(⟨(⟨o0.2.2.2.2.1,o0.2.2.2.2.2.1,o0.2.1⟩:ak),o0.2.2.2.2.2.2.1,o0.2.2.2.2.2.2.2.1,o0.2.2.2.2.2.2.2.2.1,o0.2.2.1,o0.2.2.2.2.2.2.2.2.2.1,o0.2.2.2.2.2.2.2.2.2.2.1,o0.2.2.2.1⟩:az),o0.2.2.2.2.2.2.2.2.2.2.2.1,o0.2.2.2.2.2.2.2.2.2.2.2.2.1,o0.2.2.2.2.2.2.2.2.2.2.2.2.2.1,o0.2.2.2.2.2.2.2.2.2.2.2.2.2.2.1,o0.2.2.2.2.2.2.2.2.2.2.2.2.2.2.2.1,o0.2.2.2.2.2.2.2.2.2.2.2.2.2.2.2.2⟩:ZI),o0.1))
instance (o:ZI)(l:List ZJ):CT prog (gq o l):=⟨23,[.ag (ZM o),.sl (l.map ZK)],[],λr=>.tu [.ag [.ms 0,.ms 1,vi r.1.world.aa.change,.ms 2,.ms 3,.ms 4,vi r.1.world.now,.ms 5,.ms 6,vi r.1.world.aT,.ms 7,.ms 8,.ms 9,.ms 10,.ms 11,.ms 12],vi r.2],λr=>[ZA ⟨.of 174,6,r.1.world.aa.aB.map br⟩,ZA ⟨.of 3,1,r.1.world.aa.off.map aI⟩,ZA ⟨⟨155,ZA 46⟩,11,r.1.world.ae.map aY⟩,ZA ⟨.of 177,4,r.1.world.aq.map aC⟩,ZA ⟨.of 46,2,r.1.world.ah.map aS⟩,ZA ⟨.of 181,6,r.1.world.aJ.map bt⟩,ZA ⟨.of 3,1,r.1.world.skip.map aI⟩,ZA ⟨.of 104,2,r.1.aP.map b6⟩,ZA ⟨.of 107,4,r.1.aR.map b9⟩,ZA ⟨.of 3,1,r.1.aF.map aI⟩,ZA ⟨⟨44,ZA 3⟩,7,r.1.aG.map bq⟩,ZA ⟨.of 111,4,r.1.lines.map bD⟩,ZA ⟨⟨48,ZA 3⟩,13,r.1.aE.map ZK⟩],ck (gq.eq_1 ..) func23 ntmps23 results23⟩
end Go.Proofs.YtbalgkakkoocjaaGreat
