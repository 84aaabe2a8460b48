/- ServiceLast: the law,with the chapter's examples settled. -/
import Derived.Test.YtppebpagcocogaaGreatD5ServPC
import Derived.Test.YtppebpagcocogaaGreatS15
set_option linter.unusedSimpArgs false
set_option linter.unusedVariables false
set_option linter.unusedSectionVars false
namespace Go.Ai.Sx
theorem zvo (p:Plan) (s:Service) (w:List Works) (more:Works) (line:Int) (home:Bool) (before:Int) (hs:s.1.length≤9223372036854775807):zcm p s w more line home before=some true:=zvn zpV p s w more line home before hs
end Go.Ai.Sx
