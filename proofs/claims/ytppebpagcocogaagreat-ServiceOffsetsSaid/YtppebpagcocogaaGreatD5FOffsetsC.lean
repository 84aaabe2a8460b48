/- ServiceOffsets: the law,with the chapter's examples settled. -/
import Derived.Test.YtppebpagcocogaaGreatD5ServGC
import Derived.Test.YtppebpagcocogaaGreatQ15
set_option linter.unusedSimpArgs false
set_option linter.unusedVariables false
set_option linter.unusedSectionVars false
namespace Go.Ai.Sx
theorem znS (p:Plan) (l:Line) (home:Bool) (h:Int):zbk p l home h=some true:=znR zu2 p l home h
end Go.Ai.Sx
