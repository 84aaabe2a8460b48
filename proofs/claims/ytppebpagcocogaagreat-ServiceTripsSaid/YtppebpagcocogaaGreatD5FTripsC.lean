/- ServiceTrips: the law,with the chapter's examples settled. -/
import Derived.Test.YtppebpagcocogaaGreatT16
set_option linter.unusedSimpArgs false
set_option linter.unusedVariables false
set_option linter.unusedSectionVars false
namespace Go.Ai.Sx
theorem zsQ (p:Plan) (s:Service) (w:List Works) (from_ until_:Int) (hs:s.1.length<=9223372036854775807):zbX p s w from_ until_=some true:=zsN zvx p s w from_ until_ hs
end Go.Ai.Sx