/- ServiceApart: the law,with the chapter's examples settled. -/
import Derived.Test.YtppebpagcocogaaGreatD5ServYC
import Derived.Test.YtppebpagcocogaaGreatS15
set_option linter.unusedSimpArgs false
set_option linter.unusedVariables false
set_option linter.unusedSectionVars false
namespace Go.Ai.Sx
theorem ztj (p:Plan) (s:Service) (line:Int) (home:Bool) (D f gap:Int) (hs:s.1.length≤9223372036854775807):zb3 p s line home D f gap=some true:=zti zpV p s line home D f gap hs
end Go.Ai.Sx
