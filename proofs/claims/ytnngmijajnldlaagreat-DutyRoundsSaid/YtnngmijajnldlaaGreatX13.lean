/- Two functions of the reference that shared lemmas speak of. -/
import Derived.Test.YtnngmijajnldlaaGreatX9
set_option linter.unusedSimpArgs false
set_option linter.unusedVariables false
set_option linter.unusedSectionVars false
open Option renaming some→Ob
open Option renaming bind->Zb,bind_some->Zs
namespace Go.Ai.Sx
def zlS (b:Plan) (a:zA):Option Int:=
cond a.2.1 (Zb (idx b.2.1 a.1) λx2=>
Ob x2.2.1) (Zb (idx b.2.1 a.1) λx3=>
Ob x3.1)
def zgJ (b:Train) (a:ze):Option Int:=
Zb (zf6 .i64 a.2.1 (w64 (10*b.1))) λx1=>
Ob x1
end Go.Ai.Sx