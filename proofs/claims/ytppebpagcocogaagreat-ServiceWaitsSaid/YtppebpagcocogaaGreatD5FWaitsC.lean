/- ServiceWaits: the law,with the chapter's examples settled. -/
import Derived.Test.YtppebpagcocogaaGreatD5ServJC
import Derived.Test.YtppebpagcocogaaGreatS15
set_option linter.unusedSimpArgs false
set_option linter.unusedVariables false
set_option linter.unusedSectionVars false
namespace Go.Ai.Sx
theorem zs5 (p:Plan) (s:Service) (l:List Connection) (hs:s.1.length≤9223372036854775807):zb2 p s l=some true:=zs4 zpV p s l hs
end Go.Ai.Sx
