/- ServiceConnects: the law,with the chapter's examples settled. -/
import Derived.Test.YtppebpagcocogaaGreatU16
set_option linter.unusedSimpArgs false
set_option linter.unusedVariables false
set_option linter.unusedSectionVars false
namespace Go.Ai.Sx
theorem zn2 (p:Plan) (ls:List Line) (h:Int) (l:List Connection) (hs:ls.length<=9223372036854775807):za6 p ls h l=some true:=zn0 zti p ls h l hs
end Go.Ai.Sx