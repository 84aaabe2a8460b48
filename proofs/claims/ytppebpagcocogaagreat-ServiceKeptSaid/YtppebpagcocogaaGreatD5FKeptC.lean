/- ServiceKept: the law,with the chapter's examples settled. -/
import Derived.Test.YtppebpagcocogaaGreatD5ServZ4C
import Derived.Test.YtppebpagcocogaaGreatU16
set_option linter.unusedSimpArgs false
set_option linter.unusedVariables false
set_option linter.unusedSectionVars false
namespace Go.Ai.Sx
theorem zvv (p:Plan) (s:Service) (l:List Connection) (more:Int) (hs:s.1.length<=9223372036854775807):zb7 p s l more=some true:=zvu zti p s l more hs
end Go.Ai.Sx