/- Layer 17: what the law's known answers. No conditions. -/
import Derived.Test.YthjmdpekcleihaaPx0
import Derived.Test.YthjmdpekcleihaaPx4
import Derived.Test.YthjmdpekcleihaaEvKit
namespace Go.Proofs.Ythjmdpekcleihaa.Pure
set_option linter.unusedVariables false
set_option linter.unusedSimpArgs false
open Go.RowKit Go.Proofs.YthjmdpekcleihaaW.PrintWords Go.Proofs.YthjmdpekcleihaaW.PrintMore Go.Proofs.Ythjmdpekcleihaa.P Go.Proofs.Ythjmdpekcleihaa

theorem known_ev:Ev (fun k => hinterlandlaw17_known.f k) true := by
 refine Ev.of (fun k=>hinterlandlaw17_known.mono k) (k:=60) ?_
 decide +kernel
theorem known_then:Ev (fun k => (hinterlandlaw17_known.f k).bind fun t => some t) true := Ev.bind known_ev (Ev.now _)
end Go.Proofs.Ythjmdpekcleihaa.Pure
