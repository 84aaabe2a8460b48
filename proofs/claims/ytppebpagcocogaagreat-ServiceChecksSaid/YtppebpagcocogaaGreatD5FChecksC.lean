/- ServiceChecks: the law,with the chapter's examples settled. -/
import Derived.Test.YtppebpagcocogaaGreatD5ServHC
import Derived.Test.YtppebpagcocogaaGreatQ15
set_option linter.unusedSimpArgs false
set_option linter.unusedVariables false
set_option linter.unusedSectionVars false
namespace Go.Ai.Sx
theorem zpP (p:Plan) (s:Service) (hs:s.1.length≤9223372036854775807):zbw p s=some true:=zpO zu2 p s hs
end Go.Ai.Sx
