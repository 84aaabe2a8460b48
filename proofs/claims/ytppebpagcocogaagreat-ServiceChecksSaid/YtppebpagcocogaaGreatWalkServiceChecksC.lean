/- Written by program: walks through functions. -/
import Derived.Test.YtppebpagcocogaaGreatQ21
set_option linter.unusedSimpArgs false
set_option linter.unusedVariables false
set_option linter.unusedSectionVars false
namespace Go.Ai.TabYtppebpagcocogaaGreat
open Go Go.Ai Go.Ai.Sx Go.Proofs
attribute [local irreducible] zo
set_option maxRecDepth 100000
set_option maxHeartbeats 4000000
instance i28 {p_0 s_1}:FI ktab 28 (zch p_0 s_1) [.val zaJ p_0,.val zcb s_1] (fun out=>[.val (zj .i64) (out)]):=⟨fun out ho=>by
 delta zch at ho;refine fn fun _ _=>?_;exact w ho⟩
instance i4 {p_0 s_1}:FI ktab 4 (zbw p_0 s_1) [.val zaJ p_0,.val zcb s_1] (fun out=>[.val zB (out)]):=⟨fun out ho=>by
 delta zbw at ho;refine fn fun _ _=>?_;refine run 11 ?_;refine xcl ho ?_;intro y1 hy1 ho;show zo ..;refine run 2 ?_;refine wct ho (fun hq2 ho=>?_) fun hq2 ho=>?_
 ·exact w ho
 ·refine run 10 ?_;refine xcl ho ?_;intro y4 hy4 ho;show zo ..;refine run 1 ?_;refine wct ho (fun hq5 ho=>?_) fun hq5 ho=>?_
  ·refine run 4 ?_;obtain ⟨c9,hc9,ho⟩:=bnd ho;refine wcx c9 [] (fun t=>(.normal,fun _=>([(4,vB (t))],[]))) SEL ?_ fun _=>?_
   ·exact w hc9
   ·show zap ..;cases ho; exact zaj (zF (.inr rfl) (.v rfl .n) (by decide))
  ·refine run 2 ?_;obtain ⟨c16,hc16,ho⟩:=bnd ho;refine wcx c16 [] (fun t=>(.normal,fun _=>([(4,vB (t))],[]))) SEL ?_ fun _=>?_
   ·exact w hc16
   ·show zap ..;cases ho; exact zaj (zF (.inr rfl) (.v rfl .n) (by decide))⟩
end Go.Ai.TabYtppebpagcocogaaGreat
