/- Written by program: the tables of the seat's program for the abstract interpreter, and that they agree with it. -/
import Derived.Test.YtpiblfbidgcjaaaM3
import Derived.Eval
import Derived.Test.YtpiblfbidgcjaaaChecked
import Derived.KernelRfl
import Derived.Test.YtpiblfbidgcjaaaM1
import Derived.Test.YtpiblfbidgcjaaaRows
import Derived.WalkKit
import Derived.ProofKit
namespace Go.Ai.TabYtpiblfbidgcjaaa
open Go Go.Ai Go.Proofs
noncomputable def ti0 : TInfo := { desc := Try.t0.desc, size := Try.t0.size, bytes := Try.t0.bytes, zero := Try.t0.zero.bind ofVal, stood := Try.prog.stoodInHeld 0, eqg := Try.prog.eqGuardType Try.prog.depth 0 }
noncomputable def ti1 : TInfo := { desc := Try.t1.desc, size := Try.t1.size, bytes := Try.t1.bytes, zero := Try.t1.zero.bind ofVal, stood := Try.prog.stoodInHeld 1, eqg := Try.prog.eqGuardType Try.prog.depth 1 }
noncomputable def ti2 : TInfo := { desc := Try.t2.desc, size := Try.t2.size, bytes := Try.t2.bytes, zero := Try.t2.zero.bind ofVal, stood := Try.prog.stoodInHeld 2, eqg := Try.prog.eqGuardType Try.prog.depth 2 }
noncomputable def ti3 : TInfo := { desc := Try.t3.desc, size := Try.t3.size, bytes := Try.t3.bytes, zero := Try.t3.zero.bind ofVal, stood := Try.prog.stoodInHeld 3, eqg := Try.prog.eqGuardType Try.prog.depth 3 }
noncomputable def ti4 : TInfo := { desc := Try.t4.desc, size := Try.t4.size, bytes := Try.t4.bytes, zero := Try.t4.zero.bind ofVal, stood := Try.prog.stoodInHeld 4, eqg := Try.prog.eqGuardType Try.prog.depth 4 }
noncomputable def ti5 : TInfo := { desc := Try.t5.desc, size := Try.t5.size, bytes := Try.t5.bytes, zero := Try.t5.zero.bind ofVal, stood := Try.prog.stoodInHeld 5, eqg := Try.prog.eqGuardType Try.prog.depth 5 }
noncomputable def ti6 : TInfo := { desc := Try.t5.desc, size := Try.t6.size, bytes := Try.t6.bytes, zero := Try.t6.zero.bind ofVal, stood := Try.prog.stoodInHeld 6, eqg := Try.prog.eqGuardType Try.prog.depth 6 }
noncomputable def ti7 : TInfo := { desc := Try.t7.desc, size := Try.t7.size, bytes := Try.t7.bytes, zero := Try.t7.zero.bind ofVal, stood := Try.prog.stoodInHeld 7, eqg := Try.prog.eqGuardType Try.prog.depth 7 }
noncomputable def ti8 : TInfo := { desc := Try.t7.desc, size := Try.t8.size, bytes := Try.t8.bytes, zero := Try.t8.zero.bind ofVal, stood := Try.prog.stoodInHeld 8, eqg := Try.prog.eqGuardType Try.prog.depth 8 }
noncomputable def ti9 : TInfo := { desc := Try.t9.desc, size := Try.t9.size, bytes := Try.t9.bytes, zero := Try.t9.zero.bind ofVal, stood := Try.prog.stoodInHeld 9, eqg := Try.prog.eqGuardType Try.prog.depth 9 }
noncomputable def ti10 : TInfo := { desc := Try.t9.desc, size := Try.t10.size, bytes := Try.t10.bytes, zero := Try.t10.zero.bind ofVal, stood := Try.prog.stoodInHeld 10, eqg := Try.prog.eqGuardType Try.prog.depth 10 }
noncomputable def ti11 : TInfo := { desc := Try.t9.desc, size := Try.t11.size, bytes := Try.t11.bytes, zero := Try.t11.zero.bind ofVal, stood := Try.prog.stoodInHeld 11, eqg := Try.prog.eqGuardType Try.prog.depth 11 }
noncomputable def ti12 : TInfo := { desc := Try.t12.desc, size := Try.t12.size, bytes := Try.t12.bytes, zero := Try.t12.zero.bind ofVal, stood := Try.prog.stoodInHeld 12, eqg := Try.prog.eqGuardType Try.prog.depth 12 }
noncomputable def ti13 : TInfo := { desc := Try.t13.desc, size := Try.t13.size, bytes := Try.t13.bytes, zero := Try.t13.zero.bind ofVal, stood := Try.prog.stoodInHeld 13, eqg := Try.prog.eqGuardType Try.prog.depth 13 }
noncomputable def ti14 : TInfo := { desc := Try.t13.desc, size := Try.t14.size, bytes := Try.t14.bytes, zero := Try.t14.zero.bind ofVal, stood := Try.prog.stoodInHeld 14, eqg := Try.prog.eqGuardType Try.prog.depth 14 }
noncomputable def ti15 : TInfo := { desc := Try.t15.desc, size := Try.t15.size, bytes := Try.t15.bytes, zero := Try.t15.zero.bind ofVal, stood := Try.prog.stoodInHeld 15, eqg := Try.prog.eqGuardType Try.prog.depth 15 }
noncomputable def ti16 : TInfo := { desc := Try.t16.desc, size := Try.t16.size, bytes := Try.t16.bytes, zero := Try.t16.zero.bind ofVal, stood := Try.prog.stoodInHeld 16, eqg := Try.prog.eqGuardType Try.prog.depth 16 }
noncomputable def ti17 : TInfo := { desc := Try.t17.desc, size := Try.t17.size, bytes := Try.t17.bytes, zero := Try.t17.zero.bind ofVal, stood := Try.prog.stoodInHeld 17, eqg := Try.prog.eqGuardType Try.prog.depth 17 }
noncomputable def ti18 : TInfo := { desc := Try.t18.desc, size := Try.t18.size, bytes := Try.t18.bytes, zero := Try.t18.zero.bind ofVal, stood := Try.prog.stoodInHeld 18, eqg := Try.prog.eqGuardType Try.prog.depth 18 }
noncomputable def ti19 : TInfo := { desc := Try.t18.desc, size := Try.t19.size, bytes := Try.t19.bytes, zero := Try.t19.zero.bind ofVal, stood := Try.prog.stoodInHeld 19, eqg := Try.prog.eqGuardType Try.prog.depth 19 }
noncomputable def ti20 : TInfo := { desc := Try.t20.desc, size := Try.t20.size, bytes := Try.t20.bytes, zero := Try.t20.zero.bind ofVal, stood := Try.prog.stoodInHeld 20, eqg := Try.prog.eqGuardType Try.prog.depth 20 }
noncomputable def ti21 : TInfo := { desc := Try.t21.desc, size := Try.t21.size, bytes := Try.t21.bytes, zero := Try.t21.zero.bind ofVal, stood := Try.prog.stoodInHeld 21, eqg := Try.prog.eqGuardType Try.prog.depth 21 }
noncomputable def ti22 : TInfo := { desc := Try.t22.desc, size := Try.t22.size, bytes := Try.t22.bytes, zero := Try.t22.zero.bind ofVal, stood := Try.prog.stoodInHeld 22, eqg := Try.prog.eqGuardType Try.prog.depth 22 }
noncomputable def ti23 : TInfo := { desc := Try.t23.desc, size := Try.t23.size, bytes := Try.t23.bytes, zero := Try.t23.zero.bind ofVal, stood := Try.prog.stoodInHeld 23, eqg := Try.prog.eqGuardType Try.prog.depth 23 }
noncomputable def ti24 : TInfo := { desc := Try.t3.desc, size := Try.t24.size, bytes := Try.t24.bytes, zero := Try.t24.zero.bind ofVal, stood := Try.prog.stoodInHeld 24, eqg := Try.prog.eqGuardType Try.prog.depth 24 }
noncomputable def ti25 : TInfo := { desc := Try.t25.desc, size := Try.t25.size, bytes := Try.t25.bytes, zero := Try.t25.zero.bind ofVal, stood := Try.prog.stoodInHeld 25, eqg := Try.prog.eqGuardType Try.prog.depth 25 }
noncomputable def ti26 : TInfo := { desc := Try.t26.desc, size := Try.t26.size, bytes := Try.t26.bytes, zero := Try.t26.zero.bind ofVal, stood := Try.prog.stoodInHeld 26, eqg := Try.prog.eqGuardType Try.prog.depth 26 }
noncomputable def ti27 : TInfo := { desc := Try.t27.desc, size := Try.t27.size, bytes := Try.t27.bytes, zero := Try.t27.zero.bind ofVal, stood := Try.prog.stoodInHeld 27, eqg := Try.prog.eqGuardType Try.prog.depth 27 }
noncomputable def ti28 : TInfo := { desc := Try.t28.desc, size := Try.t28.size, bytes := Try.t28.bytes, zero := Try.t28.zero.bind ofVal, stood := Try.prog.stoodInHeld 28, eqg := Try.prog.eqGuardType Try.prog.depth 28 }
noncomputable def ti29 : TInfo := { desc := Try.t29.desc, size := Try.t29.size, bytes := Try.t29.bytes, zero := Try.t29.zero.bind ofVal, stood := Try.prog.stoodInHeld 29, eqg := Try.prog.eqGuardType Try.prog.depth 29 }
noncomputable def ti30 : TInfo := { desc := Try.t30.desc, size := Try.t30.size, bytes := Try.t30.bytes, zero := Try.t30.zero.bind ofVal, stood := Try.prog.stoodInHeld 30, eqg := Try.prog.eqGuardType Try.prog.depth 30 }
noncomputable def ti31 : TInfo := { desc := Try.t31.desc, size := Try.t31.size, bytes := Try.t31.bytes, zero := Try.t31.zero.bind ofVal, stood := Try.prog.stoodInHeld 31, eqg := Try.prog.eqGuardType Try.prog.depth 31 }
noncomputable def ti32 : TInfo := { desc := Try.t32.desc, size := Try.t32.size, bytes := Try.t32.bytes, zero := Try.t32.zero.bind ofVal, stood := Try.prog.stoodInHeld 32, eqg := Try.prog.eqGuardType Try.prog.depth 32 }
noncomputable def ti33 : TInfo := { desc := Try.t33.desc, size := Try.t33.size, bytes := Try.t33.bytes, zero := Try.t33.zero.bind ofVal, stood := Try.prog.stoodInHeld 33, eqg := Try.prog.eqGuardType Try.prog.depth 33 }
noncomputable def ti34 : TInfo := { desc := Try.t34.desc, size := Try.t34.size, bytes := Try.t34.bytes, zero := Try.t34.zero.bind ofVal, stood := Try.prog.stoodInHeld 34, eqg := Try.prog.eqGuardType Try.prog.depth 34 }
noncomputable def ti35 : TInfo := { desc := Try.t35.desc, size := Try.t35.size, bytes := Try.t35.bytes, zero := Try.t35.zero.bind ofVal, stood := Try.prog.stoodInHeld 35, eqg := Try.prog.eqGuardType Try.prog.depth 35 }
noncomputable def ti36 : TInfo := { desc := Try.t35.desc, size := Try.t36.size, bytes := Try.t36.bytes, zero := Try.t36.zero.bind ofVal, stood := Try.prog.stoodInHeld 36, eqg := Try.prog.eqGuardType Try.prog.depth 36 }
noncomputable def ti37 : TInfo := { desc := Try.t37.desc, size := Try.t37.size, bytes := Try.t37.bytes, zero := Try.t37.zero.bind ofVal, stood := Try.prog.stoodInHeld 37, eqg := Try.prog.eqGuardType Try.prog.depth 37 }
noncomputable def ti38 : TInfo := { desc := Try.t38.desc, size := Try.t38.size, bytes := Try.t38.bytes, zero := Try.t38.zero.bind ofVal, stood := Try.prog.stoodInHeld 38, eqg := Try.prog.eqGuardType Try.prog.depth 38 }
noncomputable def ti39 : TInfo := { desc := Try.t39.desc, size := Try.t39.size, bytes := Try.t39.bytes, zero := Try.t39.zero.bind ofVal, stood := Try.prog.stoodInHeld 39, eqg := Try.prog.eqGuardType Try.prog.depth 39 }
noncomputable def ti40 : TInfo := { desc := Try.t40.desc, size := Try.t40.size, bytes := Try.t40.bytes, zero := Try.t40.zero.bind ofVal, stood := Try.prog.stoodInHeld 40, eqg := Try.prog.eqGuardType Try.prog.depth 40 }
noncomputable def ti41 : TInfo := { desc := Try.t41.desc, size := Try.t41.size, bytes := Try.t41.bytes, zero := Try.t41.zero.bind ofVal, stood := Try.prog.stoodInHeld 41, eqg := Try.prog.eqGuardType Try.prog.depth 41 }
noncomputable def ti42 : TInfo := { desc := Try.t42.desc, size := Try.t42.size, bytes := Try.t42.bytes, zero := Try.t42.zero.bind ofVal, stood := Try.prog.stoodInHeld 42, eqg := Try.prog.eqGuardType Try.prog.depth 42 }
noncomputable def ti43 : TInfo := { desc := Try.t43.desc, size := Try.t43.size, bytes := Try.t43.bytes, zero := Try.t43.zero.bind ofVal, stood := Try.prog.stoodInHeld 43, eqg := Try.prog.eqGuardType Try.prog.depth 43 }
noncomputable def ti44 : TInfo := { desc := Try.t43.desc, size := Try.t44.size, bytes := Try.t44.bytes, zero := Try.t44.zero.bind ofVal, stood := Try.prog.stoodInHeld 44, eqg := Try.prog.eqGuardType Try.prog.depth 44 }
noncomputable def ti45 : TInfo := { desc := Try.t45.desc, size := Try.t45.size, bytes := Try.t45.bytes, zero := Try.t45.zero.bind ofVal, stood := Try.prog.stoodInHeld 45, eqg := Try.prog.eqGuardType Try.prog.depth 45 }
noncomputable def ti46 : TInfo := { desc := Try.t45.desc, size := Try.t46.size, bytes := Try.t46.bytes, zero := Try.t46.zero.bind ofVal, stood := Try.prog.stoodInHeld 46, eqg := Try.prog.eqGuardType Try.prog.depth 46 }
noncomputable def ti47 : TInfo := { desc := Try.t47.desc, size := Try.t47.size, bytes := Try.t47.bytes, zero := Try.t47.zero.bind ofVal, stood := Try.prog.stoodInHeld 47, eqg := Try.prog.eqGuardType Try.prog.depth 47 }
noncomputable def ti48 : TInfo := { desc := Try.t47.desc, size := Try.t48.size, bytes := Try.t48.bytes, zero := Try.t48.zero.bind ofVal, stood := Try.prog.stoodInHeld 48, eqg := Try.prog.eqGuardType Try.prog.depth 48 }
noncomputable def ti49 : TInfo := { desc := Try.t49.desc, size := Try.t49.size, bytes := Try.t49.bytes, zero := Try.t49.zero.bind ofVal, stood := Try.prog.stoodInHeld 49, eqg := Try.prog.eqGuardType Try.prog.depth 49 }
noncomputable def ti50 : TInfo := { desc := Try.t50.desc, size := Try.t50.size, bytes := Try.t50.bytes, zero := Try.t50.zero.bind ofVal, stood := Try.prog.stoodInHeld 50, eqg := Try.prog.eqGuardType Try.prog.depth 50 }
noncomputable def ti51 : TInfo := { desc := Try.t51.desc, size := Try.t51.size, bytes := Try.t51.bytes, zero := Try.t51.zero.bind ofVal, stood := Try.prog.stoodInHeld 51, eqg := Try.prog.eqGuardType Try.prog.depth 51 }
noncomputable def ti52 : TInfo := { desc := Try.t52.desc, size := Try.t52.size, bytes := Try.t52.bytes, zero := Try.t52.zero.bind ofVal, stood := Try.prog.stoodInHeld 52, eqg := Try.prog.eqGuardType Try.prog.depth 52 }
noncomputable def ti53 : TInfo := { desc := Try.t53.desc, size := Try.t53.size, bytes := Try.t53.bytes, zero := Try.t53.zero.bind ofVal, stood := Try.prog.stoodInHeld 53, eqg := Try.prog.eqGuardType Try.prog.depth 53 }
noncomputable def ti54 : TInfo := { desc := Try.t54.desc, size := Try.t54.size, bytes := Try.t54.bytes, zero := Try.t54.zero.bind ofVal, stood := Try.prog.stoodInHeld 54, eqg := Try.prog.eqGuardType Try.prog.depth 54 }
noncomputable def ti55 : TInfo := { desc := Try.t55.desc, size := Try.t55.size, bytes := Try.t55.bytes, zero := Try.t55.zero.bind ofVal, stood := Try.prog.stoodInHeld 55, eqg := Try.prog.eqGuardType Try.prog.depth 55 }
noncomputable def ti56 : TInfo := { desc := Try.t56.desc, size := Try.t56.size, bytes := Try.t56.bytes, zero := Try.t56.zero.bind ofVal, stood := Try.prog.stoodInHeld 56, eqg := Try.prog.eqGuardType Try.prog.depth 56 }
noncomputable def ti57 : TInfo := { desc := Try.t57.desc, size := Try.t57.size, bytes := Try.t57.bytes, zero := Try.t57.zero.bind ofVal, stood := Try.prog.stoodInHeld 57, eqg := Try.prog.eqGuardType Try.prog.depth 57 }
noncomputable def ti58 : TInfo := { desc := Try.t58.desc, size := Try.t58.size, bytes := Try.t58.bytes, zero := Try.t58.zero.bind ofVal, stood := Try.prog.stoodInHeld 58, eqg := Try.prog.eqGuardType Try.prog.depth 58 }
noncomputable def ti59 : TInfo := { desc := Try.t59.desc, size := Try.t59.size, bytes := Try.t59.bytes, zero := Try.t59.zero.bind ofVal, stood := Try.prog.stoodInHeld 59, eqg := Try.prog.eqGuardType Try.prog.depth 59 }
noncomputable def ti60 : TInfo := { desc := Try.t60.desc, size := Try.t60.size, bytes := Try.t60.bytes, zero := Try.t60.zero.bind ofVal, stood := Try.prog.stoodInHeld 60, eqg := Try.prog.eqGuardType Try.prog.depth 60 }
noncomputable def ti61 : TInfo := { desc := Try.t61.desc, size := Try.t61.size, bytes := Try.t61.bytes, zero := Try.t61.zero.bind ofVal, stood := Try.prog.stoodInHeld 61, eqg := Try.prog.eqGuardType Try.prog.depth 61 }
noncomputable def ti62 : TInfo := { desc := Try.t62.desc, size := Try.t62.size, bytes := Try.t62.bytes, zero := Try.t62.zero.bind ofVal, stood := Try.prog.stoodInHeld 62, eqg := Try.prog.eqGuardType Try.prog.depth 62 }
noncomputable def ti63 : TInfo := { desc := Try.t63.desc, size := Try.t63.size, bytes := Try.t63.bytes, zero := Try.t63.zero.bind ofVal, stood := Try.prog.stoodInHeld 63, eqg := Try.prog.eqGuardType Try.prog.depth 63 }
noncomputable def ti64 : TInfo := { desc := Try.t64.desc, size := Try.t64.size, bytes := Try.t64.bytes, zero := Try.t64.zero.bind ofVal, stood := Try.prog.stoodInHeld 64, eqg := Try.prog.eqGuardType Try.prog.depth 64 }
noncomputable def ti65 : TInfo := { desc := Try.t65.desc, size := Try.t65.size, bytes := Try.t65.bytes, zero := Try.t65.zero.bind ofVal, stood := Try.prog.stoodInHeld 65, eqg := Try.prog.eqGuardType Try.prog.depth 65 }
noncomputable def ti66 : TInfo := { desc := Try.t66.desc, size := Try.t66.size, bytes := Try.t66.bytes, zero := Try.t66.zero.bind ofVal, stood := Try.prog.stoodInHeld 66, eqg := Try.prog.eqGuardType Try.prog.depth 66 }
noncomputable def ti67 : TInfo := { desc := Try.t67.desc, size := Try.t67.size, bytes := Try.t67.bytes, zero := Try.t67.zero.bind ofVal, stood := Try.prog.stoodInHeld 67, eqg := Try.prog.eqGuardType Try.prog.depth 67 }
noncomputable def ti68 : TInfo := { desc := Try.t68.desc, size := Try.t68.size, bytes := Try.t68.bytes, zero := Try.t68.zero.bind ofVal, stood := Try.prog.stoodInHeld 68, eqg := Try.prog.eqGuardType Try.prog.depth 68 }
noncomputable def ti69 : TInfo := { desc := Try.t3.desc, size := Try.t69.size, bytes := Try.t69.bytes, zero := Try.t69.zero.bind ofVal, stood := Try.prog.stoodInHeld 69, eqg := Try.prog.eqGuardType Try.prog.depth 69 }
noncomputable def ti70 : TInfo := { desc := Try.t70.desc, size := Try.t70.size, bytes := Try.t70.bytes, zero := Try.t70.zero.bind ofVal, stood := Try.prog.stoodInHeld 70, eqg := Try.prog.eqGuardType Try.prog.depth 70 }
noncomputable def ti71 : TInfo := { desc := Try.t70.desc, size := Try.t71.size, bytes := Try.t71.bytes, zero := Try.t71.zero.bind ofVal, stood := Try.prog.stoodInHeld 71, eqg := Try.prog.eqGuardType Try.prog.depth 71 }
noncomputable def ti72 : TInfo := { desc := Try.t72.desc, size := Try.t72.size, bytes := Try.t72.bytes, zero := Try.t72.zero.bind ofVal, stood := Try.prog.stoodInHeld 72, eqg := Try.prog.eqGuardType Try.prog.depth 72 }
noncomputable def ti73 : TInfo := { desc := Try.t73.desc, size := Try.t73.size, bytes := Try.t73.bytes, zero := Try.t73.zero.bind ofVal, stood := Try.prog.stoodInHeld 73, eqg := Try.prog.eqGuardType Try.prog.depth 73 }
noncomputable def ti74 : TInfo := { desc := Try.t74.desc, size := Try.t74.size, bytes := Try.t74.bytes, zero := Try.t74.zero.bind ofVal, stood := Try.prog.stoodInHeld 74, eqg := Try.prog.eqGuardType Try.prog.depth 74 }
noncomputable def ti75 : TInfo := { desc := Try.t75.desc, size := Try.t75.size, bytes := Try.t75.bytes, zero := Try.t75.zero.bind ofVal, stood := Try.prog.stoodInHeld 75, eqg := Try.prog.eqGuardType Try.prog.depth 75 }
noncomputable def ti76 : TInfo := { desc := Try.t75.desc, size := Try.t76.size, bytes := Try.t76.bytes, zero := Try.t76.zero.bind ofVal, stood := Try.prog.stoodInHeld 76, eqg := Try.prog.eqGuardType Try.prog.depth 76 }
noncomputable def ti77 : TInfo := { desc := Try.t77.desc, size := Try.t77.size, bytes := Try.t77.bytes, zero := Try.t77.zero.bind ofVal, stood := Try.prog.stoodInHeld 77, eqg := Try.prog.eqGuardType Try.prog.depth 77 }
noncomputable def ti78 : TInfo := { desc := Try.t78.desc, size := Try.t78.size, bytes := Try.t78.bytes, zero := Try.t78.zero.bind ofVal, stood := Try.prog.stoodInHeld 78, eqg := Try.prog.eqGuardType Try.prog.depth 78 }
noncomputable def ti79 : TInfo := { desc := Try.t22.desc, size := Try.t79.size, bytes := Try.t79.bytes, zero := Try.t79.zero.bind ofVal, stood := Try.prog.stoodInHeld 79, eqg := Try.prog.eqGuardType Try.prog.depth 79 }
noncomputable def ti80 : TInfo := { desc := Try.t80.desc, size := Try.t80.size, bytes := Try.t80.bytes, zero := Try.t80.zero.bind ofVal, stood := Try.prog.stoodInHeld 80, eqg := Try.prog.eqGuardType Try.prog.depth 80 }
noncomputable def ti81 : TInfo := { desc := Try.t81.desc, size := Try.t81.size, bytes := Try.t81.bytes, zero := Try.t81.zero.bind ofVal, stood := Try.prog.stoodInHeld 81, eqg := Try.prog.eqGuardType Try.prog.depth 81 }
noncomputable def ti82 : TInfo := { desc := Try.t82.desc, size := Try.t82.size, bytes := Try.t82.bytes, zero := Try.t82.zero.bind ofVal, stood := Try.prog.stoodInHeld 82, eqg := Try.prog.eqGuardType Try.prog.depth 82 }
noncomputable def ti83 : TInfo := { desc := Try.t83.desc, size := Try.t83.size, bytes := Try.t83.bytes, zero := Try.t83.zero.bind ofVal, stood := Try.prog.stoodInHeld 83, eqg := Try.prog.eqGuardType Try.prog.depth 83 }
noncomputable def ti84 : TInfo := { desc := Try.t84.desc, size := Try.t84.size, bytes := Try.t84.bytes, zero := Try.t84.zero.bind ofVal, stood := Try.prog.stoodInHeld 84, eqg := Try.prog.eqGuardType Try.prog.depth 84 }
noncomputable def ti85 : TInfo := { desc := Try.t85.desc, size := Try.t85.size, bytes := Try.t85.bytes, zero := Try.t85.zero.bind ofVal, stood := Try.prog.stoodInHeld 85, eqg := Try.prog.eqGuardType Try.prog.depth 85 }
noncomputable def ti86 : TInfo := { desc := Try.t86.desc, size := Try.t86.size, bytes := Try.t86.bytes, zero := Try.t86.zero.bind ofVal, stood := Try.prog.stoodInHeld 86, eqg := Try.prog.eqGuardType Try.prog.depth 86 }
noncomputable def ti87 : TInfo := { desc := Try.t87.desc, size := Try.t87.size, bytes := Try.t87.bytes, zero := Try.t87.zero.bind ofVal, stood := Try.prog.stoodInHeld 87, eqg := Try.prog.eqGuardType Try.prog.depth 87 }
noncomputable def ti88 : TInfo := { desc := Try.t88.desc, size := Try.t88.size, bytes := Try.t88.bytes, zero := Try.t88.zero.bind ofVal, stood := Try.prog.stoodInHeld 88, eqg := Try.prog.eqGuardType Try.prog.depth 88 }
noncomputable def ti89 : TInfo := { desc := Try.t88.desc, size := Try.t89.size, bytes := Try.t89.bytes, zero := Try.t89.zero.bind ofVal, stood := Try.prog.stoodInHeld 89, eqg := Try.prog.eqGuardType Try.prog.depth 89 }
noncomputable def ti90 : TInfo := { desc := Try.t90.desc, size := Try.t90.size, bytes := Try.t90.bytes, zero := Try.t90.zero.bind ofVal, stood := Try.prog.stoodInHeld 90, eqg := Try.prog.eqGuardType Try.prog.depth 90 }
noncomputable def ti91 : TInfo := { desc := Try.t91.desc, size := Try.t91.size, bytes := Try.t91.bytes, zero := Try.t91.zero.bind ofVal, stood := Try.prog.stoodInHeld 91, eqg := Try.prog.eqGuardType Try.prog.depth 91 }
noncomputable def ti92 : TInfo := { desc := Try.t91.desc, size := Try.t92.size, bytes := Try.t92.bytes, zero := Try.t92.zero.bind ofVal, stood := Try.prog.stoodInHeld 92, eqg := Try.prog.eqGuardType Try.prog.depth 92 }
noncomputable def ti93 : TInfo := { desc := Try.t93.desc, size := Try.t93.size, bytes := Try.t93.bytes, zero := Try.t93.zero.bind ofVal, stood := Try.prog.stoodInHeld 93, eqg := Try.prog.eqGuardType Try.prog.depth 93 }
noncomputable def ti94 : TInfo := { desc := Try.t94.desc, size := Try.t94.size, bytes := Try.t94.bytes, zero := Try.t94.zero.bind ofVal, stood := Try.prog.stoodInHeld 94, eqg := Try.prog.eqGuardType Try.prog.depth 94 }
noncomputable def ti95 : TInfo := { desc := Try.t95.desc, size := Try.t95.size, bytes := Try.t95.bytes, zero := Try.t95.zero.bind ofVal, stood := Try.prog.stoodInHeld 95, eqg := Try.prog.eqGuardType Try.prog.depth 95 }
noncomputable def ti96 : TInfo := { desc := Try.t96.desc, size := Try.t96.size, bytes := Try.t96.bytes, zero := Try.t96.zero.bind ofVal, stood := Try.prog.stoodInHeld 96, eqg := Try.prog.eqGuardType Try.prog.depth 96 }
noncomputable def ti97 : TInfo := { desc := Try.t97.desc, size := Try.t97.size, bytes := Try.t97.bytes, zero := Try.t97.zero.bind ofVal, stood := Try.prog.stoodInHeld 97, eqg := Try.prog.eqGuardType Try.prog.depth 97 }
noncomputable def ti98 : TInfo := { desc := Try.t98.desc, size := Try.t98.size, bytes := Try.t98.bytes, zero := Try.t98.zero.bind ofVal, stood := Try.prog.stoodInHeld 98, eqg := Try.prog.eqGuardType Try.prog.depth 98 }
noncomputable def ti99 : TInfo := { desc := Try.t99.desc, size := Try.t99.size, bytes := Try.t99.bytes, zero := Try.t99.zero.bind ofVal, stood := Try.prog.stoodInHeld 99, eqg := Try.prog.eqGuardType Try.prog.depth 99 }
noncomputable def ti100 : TInfo := { desc := Try.t100.desc, size := Try.t100.size, bytes := Try.t100.bytes, zero := Try.t100.zero.bind ofVal, stood := Try.prog.stoodInHeld 100, eqg := Try.prog.eqGuardType Try.prog.depth 100 }
noncomputable def ti101 : TInfo := { desc := Try.t101.desc, size := Try.t101.size, bytes := Try.t101.bytes, zero := Try.t101.zero.bind ofVal, stood := Try.prog.stoodInHeld 101, eqg := Try.prog.eqGuardType Try.prog.depth 101 }
noncomputable def ti102 : TInfo := { desc := Try.t101.desc, size := Try.t102.size, bytes := Try.t102.bytes, zero := Try.t102.zero.bind ofVal, stood := Try.prog.stoodInHeld 102, eqg := Try.prog.eqGuardType Try.prog.depth 102 }
noncomputable def ti103 : TInfo := { desc := Try.t103.desc, size := Try.t103.size, bytes := Try.t103.bytes, zero := Try.t103.zero.bind ofVal, stood := Try.prog.stoodInHeld 103, eqg := Try.prog.eqGuardType Try.prog.depth 103 }
noncomputable def ti104 : TInfo := { desc := Try.t104.desc, size := Try.t104.size, bytes := Try.t104.bytes, zero := Try.t104.zero.bind ofVal, stood := Try.prog.stoodInHeld 104, eqg := Try.prog.eqGuardType Try.prog.depth 104 }
noncomputable def ti105 : TInfo := { desc := Try.t105.desc, size := Try.t105.size, bytes := Try.t105.bytes, zero := Try.t105.zero.bind ofVal, stood := Try.prog.stoodInHeld 105, eqg := Try.prog.eqGuardType Try.prog.depth 105 }
noncomputable def ti106 : TInfo := { desc := Try.t106.desc, size := Try.t106.size, bytes := Try.t106.bytes, zero := Try.t106.zero.bind ofVal, stood := Try.prog.stoodInHeld 106, eqg := Try.prog.eqGuardType Try.prog.depth 106 }
noncomputable def ti107 : TInfo := { desc := Try.t107.desc, size := Try.t107.size, bytes := Try.t107.bytes, zero := Try.t107.zero.bind ofVal, stood := Try.prog.stoodInHeld 107, eqg := Try.prog.eqGuardType Try.prog.depth 107 }
noncomputable def ti108 : TInfo := { desc := Try.t108.desc, size := Try.t108.size, bytes := Try.t108.bytes, zero := Try.t108.zero.bind ofVal, stood := Try.prog.stoodInHeld 108, eqg := Try.prog.eqGuardType Try.prog.depth 108 }
noncomputable def ti109 : TInfo := { desc := Try.t109.desc, size := Try.t109.size, bytes := Try.t109.bytes, zero := Try.t109.zero.bind ofVal, stood := Try.prog.stoodInHeld 109, eqg := Try.prog.eqGuardType Try.prog.depth 109 }
noncomputable def ti110 : TInfo := { desc := Try.t109.desc, size := Try.t110.size, bytes := Try.t110.bytes, zero := Try.t110.zero.bind ofVal, stood := Try.prog.stoodInHeld 110, eqg := Try.prog.eqGuardType Try.prog.depth 110 }
noncomputable def ti111 : TInfo := { desc := Try.t111.desc, size := Try.t111.size, bytes := Try.t111.bytes, zero := Try.t111.zero.bind ofVal, stood := Try.prog.stoodInHeld 111, eqg := Try.prog.eqGuardType Try.prog.depth 111 }
noncomputable def ti112 : TInfo := { desc := Try.t112.desc, size := Try.t112.size, bytes := Try.t112.bytes, zero := Try.t112.zero.bind ofVal, stood := Try.prog.stoodInHeld 112, eqg := Try.prog.eqGuardType Try.prog.depth 112 }
noncomputable def ti113 : TInfo := { desc := Try.t113.desc, size := Try.t113.size, bytes := Try.t113.bytes, zero := Try.t113.zero.bind ofVal, stood := Try.prog.stoodInHeld 113, eqg := Try.prog.eqGuardType Try.prog.depth 113 }
noncomputable def ti114 : TInfo := { desc := Try.t114.desc, size := Try.t114.size, bytes := Try.t114.bytes, zero := Try.t114.zero.bind ofVal, stood := Try.prog.stoodInHeld 114, eqg := Try.prog.eqGuardType Try.prog.depth 114 }
noncomputable def ti115 : TInfo := { desc := Try.t115.desc, size := Try.t115.size, bytes := Try.t115.bytes, zero := Try.t115.zero.bind ofVal, stood := Try.prog.stoodInHeld 115, eqg := Try.prog.eqGuardType Try.prog.depth 115 }
noncomputable def ti116 : TInfo := { desc := Try.t116.desc, size := Try.t116.size, bytes := Try.t116.bytes, zero := Try.t116.zero.bind ofVal, stood := Try.prog.stoodInHeld 116, eqg := Try.prog.eqGuardType Try.prog.depth 116 }
noncomputable def ti117 : TInfo := { desc := Try.t117.desc, size := Try.t117.size, bytes := Try.t117.bytes, zero := Try.t117.zero.bind ofVal, stood := Try.prog.stoodInHeld 117, eqg := Try.prog.eqGuardType Try.prog.depth 117 }
noncomputable def ti118 : TInfo := { desc := Try.t118.desc, size := Try.t118.size, bytes := Try.t118.bytes, zero := Try.t118.zero.bind ofVal, stood := Try.prog.stoodInHeld 118, eqg := Try.prog.eqGuardType Try.prog.depth 118 }
noncomputable def ti119 : TInfo := { desc := Try.t119.desc, size := Try.t119.size, bytes := Try.t119.bytes, zero := Try.t119.zero.bind ofVal, stood := Try.prog.stoodInHeld 119, eqg := Try.prog.eqGuardType Try.prog.depth 119 }
noncomputable def ti120 : TInfo := { desc := Try.t120.desc, size := Try.t120.size, bytes := Try.t120.bytes, zero := Try.t120.zero.bind ofVal, stood := Try.prog.stoodInHeld 120, eqg := Try.prog.eqGuardType Try.prog.depth 120 }
noncomputable def ti121 : TInfo := { desc := Try.t121.desc, size := Try.t121.size, bytes := Try.t121.bytes, zero := Try.t121.zero.bind ofVal, stood := Try.prog.stoodInHeld 121, eqg := Try.prog.eqGuardType Try.prog.depth 121 }
noncomputable def ti122 : TInfo := { desc := Try.t122.desc, size := Try.t122.size, bytes := Try.t122.bytes, zero := Try.t122.zero.bind ofVal, stood := Try.prog.stoodInHeld 122, eqg := Try.prog.eqGuardType Try.prog.depth 122 }
noncomputable def ti123 : TInfo := { desc := Try.t123.desc, size := Try.t123.size, bytes := Try.t123.bytes, zero := Try.t123.zero.bind ofVal, stood := Try.prog.stoodInHeld 123, eqg := Try.prog.eqGuardType Try.prog.depth 123 }
noncomputable def ti124 : TInfo := { desc := Try.t123.desc, size := Try.t124.size, bytes := Try.t124.bytes, zero := Try.t124.zero.bind ofVal, stood := Try.prog.stoodInHeld 124, eqg := Try.prog.eqGuardType Try.prog.depth 124 }
noncomputable def ti125 : TInfo := { desc := Try.t125.desc, size := Try.t125.size, bytes := Try.t125.bytes, zero := Try.t125.zero.bind ofVal, stood := Try.prog.stoodInHeld 125, eqg := Try.prog.eqGuardType Try.prog.depth 125 }
noncomputable def ti126 : TInfo := { desc := Try.t126.desc, size := Try.t126.size, bytes := Try.t126.bytes, zero := Try.t126.zero.bind ofVal, stood := Try.prog.stoodInHeld 126, eqg := Try.prog.eqGuardType Try.prog.depth 126 }
noncomputable def ti127 : TInfo := { desc := Try.t126.desc, size := Try.t127.size, bytes := Try.t127.bytes, zero := Try.t127.zero.bind ofVal, stood := Try.prog.stoodInHeld 127, eqg := Try.prog.eqGuardType Try.prog.depth 127 }
noncomputable def ti128 : TInfo := { desc := Try.t128.desc, size := Try.t128.size, bytes := Try.t128.bytes, zero := Try.t128.zero.bind ofVal, stood := Try.prog.stoodInHeld 128, eqg := Try.prog.eqGuardType Try.prog.depth 128 }
noncomputable def ti129 : TInfo := { desc := Try.t129.desc, size := Try.t129.size, bytes := Try.t129.bytes, zero := Try.t129.zero.bind ofVal, stood := Try.prog.stoodInHeld 129, eqg := Try.prog.eqGuardType Try.prog.depth 129 }
noncomputable def ti130 : TInfo := { desc := Try.t5.desc, size := Try.t130.size, bytes := Try.t130.bytes, zero := Try.t130.zero.bind ofVal, stood := Try.prog.stoodInHeld 130, eqg := Try.prog.eqGuardType Try.prog.depth 130 }
noncomputable def ti131 : TInfo := { desc := Try.t5.desc, size := Try.t131.size, bytes := Try.t131.bytes, zero := Try.t131.zero.bind ofVal, stood := Try.prog.stoodInHeld 131, eqg := Try.prog.eqGuardType Try.prog.depth 131 }
noncomputable def ti132 : TInfo := { desc := Try.t132.desc, size := Try.t132.size, bytes := Try.t132.bytes, zero := Try.t132.zero.bind ofVal, stood := Try.prog.stoodInHeld 132, eqg := Try.prog.eqGuardType Try.prog.depth 132 }
noncomputable def ti133 : TInfo := { desc := Try.t133.desc, size := Try.t133.size, bytes := Try.t133.bytes, zero := Try.t133.zero.bind ofVal, stood := Try.prog.stoodInHeld 133, eqg := Try.prog.eqGuardType Try.prog.depth 133 }
noncomputable def ti134 : TInfo := { desc := Try.t21.desc, size := Try.t134.size, bytes := Try.t134.bytes, zero := Try.t134.zero.bind ofVal, stood := Try.prog.stoodInHeld 134, eqg := Try.prog.eqGuardType Try.prog.depth 134 }
noncomputable def ti135 : TInfo := { desc := Try.t21.desc, size := Try.t135.size, bytes := Try.t135.bytes, zero := Try.t135.zero.bind ofVal, stood := Try.prog.stoodInHeld 135, eqg := Try.prog.eqGuardType Try.prog.depth 135 }
noncomputable def ti136 : TInfo := { desc := Try.t136.desc, size := Try.t136.size, bytes := Try.t136.bytes, zero := Try.t136.zero.bind ofVal, stood := Try.prog.stoodInHeld 136, eqg := Try.prog.eqGuardType Try.prog.depth 136 }
noncomputable def ti137 : TInfo := { desc := Try.t136.desc, size := Try.t137.size, bytes := Try.t137.bytes, zero := Try.t137.zero.bind ofVal, stood := Try.prog.stoodInHeld 137, eqg := Try.prog.eqGuardType Try.prog.depth 137 }
noncomputable def ti138 : TInfo := { desc := Try.t138.desc, size := Try.t138.size, bytes := Try.t138.bytes, zero := Try.t138.zero.bind ofVal, stood := Try.prog.stoodInHeld 138, eqg := Try.prog.eqGuardType Try.prog.depth 138 }
noncomputable def types : Tr TInfo := (.node (some ti0) (.node (some ti1) (.node (some ti3) (.node (some ti7) (.node (some ti15) (.node (some ti31) (.node (some ti63) (.node (some ti127) .leaf .leaf) .leaf) (.node (some ti95) .leaf .leaf)) (.node (some ti47) (.node (some ti79) .leaf .leaf) (.node (some ti111) .leaf .leaf))) (.node (some ti23) (.node (some ti39) (.node (some ti71) (.node (some ti135) .leaf .leaf) .leaf) (.node (some ti103) .leaf .leaf)) (.node (some ti55) (.node (some ti87) .leaf .leaf) (.node (some ti119) .leaf .leaf)))) (.node (some ti11) (.node (some ti19) (.node (some ti35) (.node (some ti67) (.node (some ti131) .leaf .leaf) .leaf) (.node (some ti99) .leaf .leaf)) (.node (some ti51) (.node (some ti83) .leaf .leaf) (.node (some ti115) .leaf .leaf))) (.node (some ti27) (.node (some ti43) (.node (some ti75) .leaf .leaf) (.node (some ti107) .leaf .leaf)) (.node (some ti59) (.node (some ti91) .leaf .leaf) (.node (some ti123) .leaf .leaf))))) (.node (some ti5) (.node (some ti9) (.node (some ti17) (.node (some ti33) (.node (some ti65) (.node (some ti129) .leaf .leaf) .leaf) (.node (some ti97) .leaf .leaf)) (.node (some ti49) (.node (some ti81) .leaf .leaf) (.node (some ti113) .leaf .leaf))) (.node (some ti25) (.node (some ti41) (.node (some ti73) (.node (some ti137) .leaf .leaf) .leaf) (.node (some ti105) .leaf .leaf)) (.node (some ti57) (.node (some ti89) .leaf .leaf) (.node (some ti121) .leaf .leaf)))) (.node (some ti13) (.node (some ti21) (.node (some ti37) (.node (some ti69) (.node (some ti133) .leaf .leaf) .leaf) (.node (some ti101) .leaf .leaf)) (.node (some ti53) (.node (some ti85) .leaf .leaf) (.node (some ti117) .leaf .leaf))) (.node (some ti29) (.node (some ti45) (.node (some ti77) .leaf .leaf) (.node (some ti109) .leaf .leaf)) (.node (some ti61) (.node (some ti93) .leaf .leaf) (.node (some ti125) .leaf .leaf)))))) (.node (some ti2) (.node (some ti4) (.node (some ti8) (.node (some ti16) (.node (some ti32) (.node (some ti64) (.node (some ti128) .leaf .leaf) .leaf) (.node (some ti96) .leaf .leaf)) (.node (some ti48) (.node (some ti80) .leaf .leaf) (.node (some ti112) .leaf .leaf))) (.node (some ti24) (.node (some ti40) (.node (some ti72) (.node (some ti136) .leaf .leaf) .leaf) (.node (some ti104) .leaf .leaf)) (.node (some ti56) (.node (some ti88) .leaf .leaf) (.node (some ti120) .leaf .leaf)))) (.node (some ti12) (.node (some ti20) (.node (some ti36) (.node (some ti68) (.node (some ti132) .leaf .leaf) .leaf) (.node (some ti100) .leaf .leaf)) (.node (some ti52) (.node (some ti84) .leaf .leaf) (.node (some ti116) .leaf .leaf))) (.node (some ti28) (.node (some ti44) (.node (some ti76) .leaf .leaf) (.node (some ti108) .leaf .leaf)) (.node (some ti60) (.node (some ti92) .leaf .leaf) (.node (some ti124) .leaf .leaf))))) (.node (some ti6) (.node (some ti10) (.node (some ti18) (.node (some ti34) (.node (some ti66) (.node (some ti130) .leaf .leaf) .leaf) (.node (some ti98) .leaf .leaf)) (.node (some ti50) (.node (some ti82) .leaf .leaf) (.node (some ti114) .leaf .leaf))) (.node (some ti26) (.node (some ti42) (.node (some ti74) (.node (some ti138) .leaf .leaf) .leaf) (.node (some ti106) .leaf .leaf)) (.node (some ti58) (.node (some ti90) .leaf .leaf) (.node (some ti122) .leaf .leaf)))) (.node (some ti14) (.node (some ti22) (.node (some ti38) (.node (some ti70) (.node (some ti134) .leaf .leaf) .leaf) (.node (some ti102) .leaf .leaf)) (.node (some ti54) (.node (some ti86) .leaf .leaf) (.node (some ti118) .leaf .leaf))) (.node (some ti30) (.node (some ti46) (.node (some ti78) .leaf .leaf) (.node (some ti110) .leaf .leaf)) (.node (some ti62) (.node (some ti94) .leaf .leaf) (.node (some ti126) .leaf .leaf)))))))
noncomputable def funcs : Tr Func := (.node (some Try.f0) (.node (some Try.f1) (.node (some Try.f3) (.node (some Try.f7) (.node (some Try.f15) (.node (some Try.f31) (.node (some Try.f63) .leaf .leaf) (.node (some Try.f95) .leaf .leaf)) (.node (some Try.f47) (.node (some Try.f79) .leaf .leaf) .leaf)) (.node (some Try.f23) (.node (some Try.f39) (.node (some Try.f71) .leaf .leaf) .leaf) (.node (some Try.f55) (.node (some Try.f87) .leaf .leaf) .leaf))) (.node (some Try.f11) (.node (some Try.f19) (.node (some Try.f35) (.node (some Try.f67) .leaf .leaf) .leaf) (.node (some Try.f51) (.node (some Try.f83) .leaf .leaf) .leaf)) (.node (some Try.f27) (.node (some Try.f43) (.node (some Try.f75) .leaf .leaf) .leaf) (.node (some Try.f59) (.node (some Try.f91) .leaf .leaf) .leaf)))) (.node (some Try.f5) (.node (some Try.f9) (.node (some Try.f17) (.node (some Try.f33) (.node (some Try.f65) .leaf .leaf) (.node (some Try.f97) .leaf .leaf)) (.node (some Try.f49) (.node (some Try.f81) .leaf .leaf) .leaf)) (.node (some Try.f25) (.node (some Try.f41) (.node (some Try.f73) .leaf .leaf) .leaf) (.node (some Try.f57) (.node (some Try.f89) .leaf .leaf) .leaf))) (.node (some Try.f13) (.node (some Try.f21) (.node (some Try.f37) (.node (some Try.f69) .leaf .leaf) .leaf) (.node (some Try.f53) (.node (some Try.f85) .leaf .leaf) .leaf)) (.node (some Try.f29) (.node (some Try.f45) (.node (some Try.f77) .leaf .leaf) .leaf) (.node (some Try.f61) (.node (some Try.f93) .leaf .leaf) .leaf))))) (.node (some Try.f2) (.node (some Try.f4) (.node (some Try.f8) (.node (some Try.f16) (.node (some Try.f32) (.node (some Try.f64) .leaf .leaf) (.node (some Try.f96) .leaf .leaf)) (.node (some Try.f48) (.node (some Try.f80) .leaf .leaf) .leaf)) (.node (some Try.f24) (.node (some Try.f40) (.node (some Try.f72) .leaf .leaf) .leaf) (.node (some Try.f56) (.node (some Try.f88) .leaf .leaf) .leaf))) (.node (some Try.f12) (.node (some Try.f20) (.node (some Try.f36) (.node (some Try.f68) .leaf .leaf) .leaf) (.node (some Try.f52) (.node (some Try.f84) .leaf .leaf) .leaf)) (.node (some Try.f28) (.node (some Try.f44) (.node (some Try.f76) .leaf .leaf) .leaf) (.node (some Try.f60) (.node (some Try.f92) .leaf .leaf) .leaf)))) (.node (some Try.f6) (.node (some Try.f10) (.node (some Try.f18) (.node (some Try.f34) (.node (some Try.f66) .leaf .leaf) .leaf) (.node (some Try.f50) (.node (some Try.f82) .leaf .leaf) .leaf)) (.node (some Try.f26) (.node (some Try.f42) (.node (some Try.f74) .leaf .leaf) .leaf) (.node (some Try.f58) (.node (some Try.f90) .leaf .leaf) .leaf))) (.node (some Try.f14) (.node (some Try.f22) (.node (some Try.f38) (.node (some Try.f70) .leaf .leaf) .leaf) (.node (some Try.f54) (.node (some Try.f86) .leaf .leaf) .leaf)) (.node (some Try.f30) (.node (some Try.f46) (.node (some Try.f78) .leaf .leaf) .leaf) (.node (some Try.f62) (.node (some Try.f94) .leaf .leaf) .leaf))))))
noncomputable def tab : Tab := { types, funcs }
theorem tok0 : TypeOk Try.prog 0 ti0 := typeOk_of (j := Try.t0) (ju := Try.t0) (by kernel_rfl) (by kernel_rfl)
theorem tok1 : TypeOk Try.prog 1 ti1 := typeOk_of (j := Try.t1) (ju := Try.t1) (by kernel_rfl) (by kernel_rfl)
theorem tok2 : TypeOk Try.prog 2 ti2 := typeOk_of (j := Try.t2) (ju := Try.t2) (by kernel_rfl) (by kernel_rfl)
theorem tok3 : TypeOk Try.prog 3 ti3 := typeOk_of (j := Try.t3) (ju := Try.t3) (by kernel_rfl) (by kernel_rfl)
theorem tok4 : TypeOk Try.prog 4 ti4 := typeOk_of (j := Try.t4) (ju := Try.t4) (by kernel_rfl) (by kernel_rfl)
theorem tok5 : TypeOk Try.prog 5 ti5 := typeOk_of (j := Try.t5) (ju := Try.t5) (by kernel_rfl) (by kernel_rfl)
theorem tok6 : TypeOk Try.prog 6 ti6 := typeOk_of (j := Try.t6) (ju := Try.t5) (by kernel_rfl) (by kernel_rfl)
theorem tok7 : TypeOk Try.prog 7 ti7 := typeOk_of (j := Try.t7) (ju := Try.t7) (by kernel_rfl) (by kernel_rfl)
theorem tok8 : TypeOk Try.prog 8 ti8 := typeOk_of (j := Try.t8) (ju := Try.t7) (by kernel_rfl) (by kernel_rfl)
theorem tok9 : TypeOk Try.prog 9 ti9 := typeOk_of (j := Try.t9) (ju := Try.t9) (by kernel_rfl) (by kernel_rfl)
theorem tok10 : TypeOk Try.prog 10 ti10 := typeOk_of (j := Try.t10) (ju := Try.t9) (by kernel_rfl) (by kernel_rfl)
theorem tok11 : TypeOk Try.prog 11 ti11 := typeOk_of (j := Try.t11) (ju := Try.t9) (by kernel_rfl) (by kernel_rfl)
theorem tok12 : TypeOk Try.prog 12 ti12 := typeOk_of (j := Try.t12) (ju := Try.t12) (by kernel_rfl) (by kernel_rfl)
theorem tok13 : TypeOk Try.prog 13 ti13 := typeOk_of (j := Try.t13) (ju := Try.t13) (by kernel_rfl) (by kernel_rfl)
theorem tok14 : TypeOk Try.prog 14 ti14 := typeOk_of (j := Try.t14) (ju := Try.t13) (by kernel_rfl) (by kernel_rfl)
theorem tok15 : TypeOk Try.prog 15 ti15 := typeOk_of (j := Try.t15) (ju := Try.t15) (by kernel_rfl) (by kernel_rfl)
theorem tok16 : TypeOk Try.prog 16 ti16 := typeOk_of (j := Try.t16) (ju := Try.t16) (by kernel_rfl) (by kernel_rfl)
theorem tok17 : TypeOk Try.prog 17 ti17 := typeOk_of (j := Try.t17) (ju := Try.t17) (by kernel_rfl) (by kernel_rfl)
theorem tok18 : TypeOk Try.prog 18 ti18 := typeOk_of (j := Try.t18) (ju := Try.t18) (by kernel_rfl) (by kernel_rfl)
theorem tok19 : TypeOk Try.prog 19 ti19 := typeOk_of (j := Try.t19) (ju := Try.t18) (by kernel_rfl) (by kernel_rfl)
theorem tok20 : TypeOk Try.prog 20 ti20 := typeOk_of (j := Try.t20) (ju := Try.t20) (by kernel_rfl) (by kernel_rfl)
theorem tok21 : TypeOk Try.prog 21 ti21 := typeOk_of (j := Try.t21) (ju := Try.t21) (by kernel_rfl) (by kernel_rfl)
theorem tok22 : TypeOk Try.prog 22 ti22 := typeOk_of (j := Try.t22) (ju := Try.t22) (by kernel_rfl) (by kernel_rfl)
theorem tok23 : TypeOk Try.prog 23 ti23 := typeOk_of (j := Try.t23) (ju := Try.t23) (by kernel_rfl) (by kernel_rfl)
theorem tok24 : TypeOk Try.prog 24 ti24 := typeOk_of (j := Try.t24) (ju := Try.t3) (by kernel_rfl) (by kernel_rfl)
theorem tok25 : TypeOk Try.prog 25 ti25 := typeOk_of (j := Try.t25) (ju := Try.t25) (by kernel_rfl) (by kernel_rfl)
theorem tok26 : TypeOk Try.prog 26 ti26 := typeOk_of (j := Try.t26) (ju := Try.t26) (by kernel_rfl) (by kernel_rfl)
theorem tok27 : TypeOk Try.prog 27 ti27 := typeOk_of (j := Try.t27) (ju := Try.t27) (by kernel_rfl) (by kernel_rfl)
theorem tok28 : TypeOk Try.prog 28 ti28 := typeOk_of (j := Try.t28) (ju := Try.t28) (by kernel_rfl) (by kernel_rfl)
theorem tok29 : TypeOk Try.prog 29 ti29 := typeOk_of (j := Try.t29) (ju := Try.t29) (by kernel_rfl) (by kernel_rfl)
theorem tok30 : TypeOk Try.prog 30 ti30 := typeOk_of (j := Try.t30) (ju := Try.t30) (by kernel_rfl) (by kernel_rfl)
theorem tok31 : TypeOk Try.prog 31 ti31 := typeOk_of (j := Try.t31) (ju := Try.t31) (by kernel_rfl) (by kernel_rfl)
theorem tok32 : TypeOk Try.prog 32 ti32 := typeOk_of (j := Try.t32) (ju := Try.t32) (by kernel_rfl) (by kernel_rfl)
theorem tok33 : TypeOk Try.prog 33 ti33 := typeOk_of (j := Try.t33) (ju := Try.t33) (by kernel_rfl) (by kernel_rfl)
theorem tok34 : TypeOk Try.prog 34 ti34 := typeOk_of (j := Try.t34) (ju := Try.t34) (by kernel_rfl) (by kernel_rfl)
theorem tok35 : TypeOk Try.prog 35 ti35 := typeOk_of (j := Try.t35) (ju := Try.t35) (by kernel_rfl) (by kernel_rfl)
theorem tok36 : TypeOk Try.prog 36 ti36 := typeOk_of (j := Try.t36) (ju := Try.t35) (by kernel_rfl) (by kernel_rfl)
theorem tok37 : TypeOk Try.prog 37 ti37 := typeOk_of (j := Try.t37) (ju := Try.t37) (by kernel_rfl) (by kernel_rfl)
theorem tok38 : TypeOk Try.prog 38 ti38 := typeOk_of (j := Try.t38) (ju := Try.t38) (by kernel_rfl) (by kernel_rfl)
theorem tok39 : TypeOk Try.prog 39 ti39 := typeOk_of (j := Try.t39) (ju := Try.t39) (by kernel_rfl) (by kernel_rfl)
theorem tok40 : TypeOk Try.prog 40 ti40 := typeOk_of (j := Try.t40) (ju := Try.t40) (by kernel_rfl) (by kernel_rfl)
theorem tok41 : TypeOk Try.prog 41 ti41 := typeOk_of (j := Try.t41) (ju := Try.t41) (by kernel_rfl) (by kernel_rfl)
theorem tok42 : TypeOk Try.prog 42 ti42 := typeOk_of (j := Try.t42) (ju := Try.t42) (by kernel_rfl) (by kernel_rfl)
theorem tok43 : TypeOk Try.prog 43 ti43 := typeOk_of (j := Try.t43) (ju := Try.t43) (by kernel_rfl) (by kernel_rfl)
theorem tok44 : TypeOk Try.prog 44 ti44 := typeOk_of (j := Try.t44) (ju := Try.t43) (by kernel_rfl) (by kernel_rfl)
theorem tok45 : TypeOk Try.prog 45 ti45 := typeOk_of (j := Try.t45) (ju := Try.t45) (by kernel_rfl) (by kernel_rfl)
theorem tok46 : TypeOk Try.prog 46 ti46 := typeOk_of (j := Try.t46) (ju := Try.t45) (by kernel_rfl) (by kernel_rfl)
theorem tok47 : TypeOk Try.prog 47 ti47 := typeOk_of (j := Try.t47) (ju := Try.t47) (by kernel_rfl) (by kernel_rfl)
theorem tok48 : TypeOk Try.prog 48 ti48 := typeOk_of (j := Try.t48) (ju := Try.t47) (by kernel_rfl) (by kernel_rfl)
theorem tok49 : TypeOk Try.prog 49 ti49 := typeOk_of (j := Try.t49) (ju := Try.t49) (by kernel_rfl) (by kernel_rfl)
theorem tok50 : TypeOk Try.prog 50 ti50 := typeOk_of (j := Try.t50) (ju := Try.t50) (by kernel_rfl) (by kernel_rfl)
theorem tok51 : TypeOk Try.prog 51 ti51 := typeOk_of (j := Try.t51) (ju := Try.t51) (by kernel_rfl) (by kernel_rfl)
theorem tok52 : TypeOk Try.prog 52 ti52 := typeOk_of (j := Try.t52) (ju := Try.t52) (by kernel_rfl) (by kernel_rfl)
theorem tok53 : TypeOk Try.prog 53 ti53 := typeOk_of (j := Try.t53) (ju := Try.t53) (by kernel_rfl) (by kernel_rfl)
theorem tok54 : TypeOk Try.prog 54 ti54 := typeOk_of (j := Try.t54) (ju := Try.t54) (by kernel_rfl) (by kernel_rfl)
theorem tok55 : TypeOk Try.prog 55 ti55 := typeOk_of (j := Try.t55) (ju := Try.t55) (by kernel_rfl) (by kernel_rfl)
theorem tok56 : TypeOk Try.prog 56 ti56 := typeOk_of (j := Try.t56) (ju := Try.t56) (by kernel_rfl) (by kernel_rfl)
theorem tok57 : TypeOk Try.prog 57 ti57 := typeOk_of (j := Try.t57) (ju := Try.t57) (by kernel_rfl) (by kernel_rfl)
theorem tok58 : TypeOk Try.prog 58 ti58 := typeOk_of (j := Try.t58) (ju := Try.t58) (by kernel_rfl) (by kernel_rfl)
theorem tok59 : TypeOk Try.prog 59 ti59 := typeOk_of (j := Try.t59) (ju := Try.t59) (by kernel_rfl) (by kernel_rfl)
theorem tok60 : TypeOk Try.prog 60 ti60 := typeOk_of (j := Try.t60) (ju := Try.t60) (by kernel_rfl) (by kernel_rfl)
theorem tok61 : TypeOk Try.prog 61 ti61 := typeOk_of (j := Try.t61) (ju := Try.t61) (by kernel_rfl) (by kernel_rfl)
theorem tok62 : TypeOk Try.prog 62 ti62 := typeOk_of (j := Try.t62) (ju := Try.t62) (by kernel_rfl) (by kernel_rfl)
theorem tok63 : TypeOk Try.prog 63 ti63 := typeOk_of (j := Try.t63) (ju := Try.t63) (by kernel_rfl) (by kernel_rfl)
theorem tok64 : TypeOk Try.prog 64 ti64 := typeOk_of (j := Try.t64) (ju := Try.t64) (by kernel_rfl) (by kernel_rfl)
theorem tok65 : TypeOk Try.prog 65 ti65 := typeOk_of (j := Try.t65) (ju := Try.t65) (by kernel_rfl) (by kernel_rfl)
theorem tok66 : TypeOk Try.prog 66 ti66 := typeOk_of (j := Try.t66) (ju := Try.t66) (by kernel_rfl) (by kernel_rfl)
theorem tok67 : TypeOk Try.prog 67 ti67 := typeOk_of (j := Try.t67) (ju := Try.t67) (by kernel_rfl) (by kernel_rfl)
theorem tok68 : TypeOk Try.prog 68 ti68 := typeOk_of (j := Try.t68) (ju := Try.t68) (by kernel_rfl) (by kernel_rfl)
theorem tok69 : TypeOk Try.prog 69 ti69 := typeOk_of (j := Try.t69) (ju := Try.t3) (by kernel_rfl) (by kernel_rfl)
theorem tok70 : TypeOk Try.prog 70 ti70 := typeOk_of (j := Try.t70) (ju := Try.t70) (by kernel_rfl) (by kernel_rfl)
theorem tok71 : TypeOk Try.prog 71 ti71 := typeOk_of (j := Try.t71) (ju := Try.t70) (by kernel_rfl) (by kernel_rfl)
theorem tok72 : TypeOk Try.prog 72 ti72 := typeOk_of (j := Try.t72) (ju := Try.t72) (by kernel_rfl) (by kernel_rfl)
theorem tok73 : TypeOk Try.prog 73 ti73 := typeOk_of (j := Try.t73) (ju := Try.t73) (by kernel_rfl) (by kernel_rfl)
theorem tok74 : TypeOk Try.prog 74 ti74 := typeOk_of (j := Try.t74) (ju := Try.t74) (by kernel_rfl) (by kernel_rfl)
theorem tok75 : TypeOk Try.prog 75 ti75 := typeOk_of (j := Try.t75) (ju := Try.t75) (by kernel_rfl) (by kernel_rfl)
theorem tok76 : TypeOk Try.prog 76 ti76 := typeOk_of (j := Try.t76) (ju := Try.t75) (by kernel_rfl) (by kernel_rfl)
theorem tok77 : TypeOk Try.prog 77 ti77 := typeOk_of (j := Try.t77) (ju := Try.t77) (by kernel_rfl) (by kernel_rfl)
theorem tok78 : TypeOk Try.prog 78 ti78 := typeOk_of (j := Try.t78) (ju := Try.t78) (by kernel_rfl) (by kernel_rfl)
theorem tok79 : TypeOk Try.prog 79 ti79 := typeOk_of (j := Try.t79) (ju := Try.t22) (by kernel_rfl) (by kernel_rfl)
theorem tok80 : TypeOk Try.prog 80 ti80 := typeOk_of (j := Try.t80) (ju := Try.t80) (by kernel_rfl) (by kernel_rfl)
theorem tok81 : TypeOk Try.prog 81 ti81 := typeOk_of (j := Try.t81) (ju := Try.t81) (by kernel_rfl) (by kernel_rfl)
theorem tok82 : TypeOk Try.prog 82 ti82 := typeOk_of (j := Try.t82) (ju := Try.t82) (by kernel_rfl) (by kernel_rfl)
theorem tok83 : TypeOk Try.prog 83 ti83 := typeOk_of (j := Try.t83) (ju := Try.t83) (by kernel_rfl) (by kernel_rfl)
theorem tok84 : TypeOk Try.prog 84 ti84 := typeOk_of (j := Try.t84) (ju := Try.t84) (by kernel_rfl) (by kernel_rfl)
theorem tok85 : TypeOk Try.prog 85 ti85 := typeOk_of (j := Try.t85) (ju := Try.t85) (by kernel_rfl) (by kernel_rfl)
theorem tok86 : TypeOk Try.prog 86 ti86 := typeOk_of (j := Try.t86) (ju := Try.t86) (by kernel_rfl) (by kernel_rfl)
theorem tok87 : TypeOk Try.prog 87 ti87 := typeOk_of (j := Try.t87) (ju := Try.t87) (by kernel_rfl) (by kernel_rfl)
theorem tok88 : TypeOk Try.prog 88 ti88 := typeOk_of (j := Try.t88) (ju := Try.t88) (by kernel_rfl) (by kernel_rfl)
theorem tok89 : TypeOk Try.prog 89 ti89 := typeOk_of (j := Try.t89) (ju := Try.t88) (by kernel_rfl) (by kernel_rfl)
theorem tok90 : TypeOk Try.prog 90 ti90 := typeOk_of (j := Try.t90) (ju := Try.t90) (by kernel_rfl) (by kernel_rfl)
theorem tok91 : TypeOk Try.prog 91 ti91 := typeOk_of (j := Try.t91) (ju := Try.t91) (by kernel_rfl) (by kernel_rfl)
theorem tok92 : TypeOk Try.prog 92 ti92 := typeOk_of (j := Try.t92) (ju := Try.t91) (by kernel_rfl) (by kernel_rfl)
theorem tok93 : TypeOk Try.prog 93 ti93 := typeOk_of (j := Try.t93) (ju := Try.t93) (by kernel_rfl) (by kernel_rfl)
theorem tok94 : TypeOk Try.prog 94 ti94 := typeOk_of (j := Try.t94) (ju := Try.t94) (by kernel_rfl) (by kernel_rfl)
theorem tok95 : TypeOk Try.prog 95 ti95 := typeOk_of (j := Try.t95) (ju := Try.t95) (by kernel_rfl) (by kernel_rfl)
theorem tok96 : TypeOk Try.prog 96 ti96 := typeOk_of (j := Try.t96) (ju := Try.t96) (by kernel_rfl) (by kernel_rfl)
theorem tok97 : TypeOk Try.prog 97 ti97 := typeOk_of (j := Try.t97) (ju := Try.t97) (by kernel_rfl) (by kernel_rfl)
theorem tok98 : TypeOk Try.prog 98 ti98 := typeOk_of (j := Try.t98) (ju := Try.t98) (by kernel_rfl) (by kernel_rfl)
theorem tok99 : TypeOk Try.prog 99 ti99 := typeOk_of (j := Try.t99) (ju := Try.t99) (by kernel_rfl) (by kernel_rfl)
theorem tok100 : TypeOk Try.prog 100 ti100 := typeOk_of (j := Try.t100) (ju := Try.t100) (by kernel_rfl) (by kernel_rfl)
theorem tok101 : TypeOk Try.prog 101 ti101 := typeOk_of (j := Try.t101) (ju := Try.t101) (by kernel_rfl) (by kernel_rfl)
theorem tok102 : TypeOk Try.prog 102 ti102 := typeOk_of (j := Try.t102) (ju := Try.t101) (by kernel_rfl) (by kernel_rfl)
theorem tok103 : TypeOk Try.prog 103 ti103 := typeOk_of (j := Try.t103) (ju := Try.t103) (by kernel_rfl) (by kernel_rfl)
theorem tok104 : TypeOk Try.prog 104 ti104 := typeOk_of (j := Try.t104) (ju := Try.t104) (by kernel_rfl) (by kernel_rfl)
theorem tok105 : TypeOk Try.prog 105 ti105 := typeOk_of (j := Try.t105) (ju := Try.t105) (by kernel_rfl) (by kernel_rfl)
theorem tok106 : TypeOk Try.prog 106 ti106 := typeOk_of (j := Try.t106) (ju := Try.t106) (by kernel_rfl) (by kernel_rfl)
theorem tok107 : TypeOk Try.prog 107 ti107 := typeOk_of (j := Try.t107) (ju := Try.t107) (by kernel_rfl) (by kernel_rfl)
theorem tok108 : TypeOk Try.prog 108 ti108 := typeOk_of (j := Try.t108) (ju := Try.t108) (by kernel_rfl) (by kernel_rfl)
theorem tok109 : TypeOk Try.prog 109 ti109 := typeOk_of (j := Try.t109) (ju := Try.t109) (by kernel_rfl) (by kernel_rfl)
theorem tok110 : TypeOk Try.prog 110 ti110 := typeOk_of (j := Try.t110) (ju := Try.t109) (by kernel_rfl) (by kernel_rfl)
theorem tok111 : TypeOk Try.prog 111 ti111 := typeOk_of (j := Try.t111) (ju := Try.t111) (by kernel_rfl) (by kernel_rfl)
theorem tok112 : TypeOk Try.prog 112 ti112 := typeOk_of (j := Try.t112) (ju := Try.t112) (by kernel_rfl) (by kernel_rfl)
theorem tok113 : TypeOk Try.prog 113 ti113 := typeOk_of (j := Try.t113) (ju := Try.t113) (by kernel_rfl) (by kernel_rfl)
theorem tok114 : TypeOk Try.prog 114 ti114 := typeOk_of (j := Try.t114) (ju := Try.t114) (by kernel_rfl) (by kernel_rfl)
theorem tok115 : TypeOk Try.prog 115 ti115 := typeOk_of (j := Try.t115) (ju := Try.t115) (by kernel_rfl) (by kernel_rfl)
theorem tok116 : TypeOk Try.prog 116 ti116 := typeOk_of (j := Try.t116) (ju := Try.t116) (by kernel_rfl) (by kernel_rfl)
theorem tok117 : TypeOk Try.prog 117 ti117 := typeOk_of (j := Try.t117) (ju := Try.t117) (by kernel_rfl) (by kernel_rfl)
theorem tok118 : TypeOk Try.prog 118 ti118 := typeOk_of (j := Try.t118) (ju := Try.t118) (by kernel_rfl) (by kernel_rfl)
theorem tok119 : TypeOk Try.prog 119 ti119 := typeOk_of (j := Try.t119) (ju := Try.t119) (by kernel_rfl) (by kernel_rfl)
theorem tok120 : TypeOk Try.prog 120 ti120 := typeOk_of (j := Try.t120) (ju := Try.t120) (by kernel_rfl) (by kernel_rfl)
theorem tok121 : TypeOk Try.prog 121 ti121 := typeOk_of (j := Try.t121) (ju := Try.t121) (by kernel_rfl) (by kernel_rfl)
theorem tok122 : TypeOk Try.prog 122 ti122 := typeOk_of (j := Try.t122) (ju := Try.t122) (by kernel_rfl) (by kernel_rfl)
theorem tok123 : TypeOk Try.prog 123 ti123 := typeOk_of (j := Try.t123) (ju := Try.t123) (by kernel_rfl) (by kernel_rfl)
theorem tok124 : TypeOk Try.prog 124 ti124 := typeOk_of (j := Try.t124) (ju := Try.t123) (by kernel_rfl) (by kernel_rfl)
theorem tok125 : TypeOk Try.prog 125 ti125 := typeOk_of (j := Try.t125) (ju := Try.t125) (by kernel_rfl) (by kernel_rfl)
theorem tok126 : TypeOk Try.prog 126 ti126 := typeOk_of (j := Try.t126) (ju := Try.t126) (by kernel_rfl) (by kernel_rfl)
theorem tok127 : TypeOk Try.prog 127 ti127 := typeOk_of (j := Try.t127) (ju := Try.t126) (by kernel_rfl) (by kernel_rfl)
theorem tok128 : TypeOk Try.prog 128 ti128 := typeOk_of (j := Try.t128) (ju := Try.t128) (by kernel_rfl) (by kernel_rfl)
theorem tok129 : TypeOk Try.prog 129 ti129 := typeOk_of (j := Try.t129) (ju := Try.t129) (by kernel_rfl) (by kernel_rfl)
theorem tok130 : TypeOk Try.prog 130 ti130 := typeOk_of (j := Try.t130) (ju := Try.t5) (by kernel_rfl) (by kernel_rfl)
theorem tok131 : TypeOk Try.prog 131 ti131 := typeOk_of (j := Try.t131) (ju := Try.t5) (by kernel_rfl) (by kernel_rfl)
theorem tok132 : TypeOk Try.prog 132 ti132 := typeOk_of (j := Try.t132) (ju := Try.t132) (by kernel_rfl) (by kernel_rfl)
theorem tok133 : TypeOk Try.prog 133 ti133 := typeOk_of (j := Try.t133) (ju := Try.t133) (by kernel_rfl) (by kernel_rfl)
theorem tok134 : TypeOk Try.prog 134 ti134 := typeOk_of (j := Try.t134) (ju := Try.t21) (by kernel_rfl) (by kernel_rfl)
theorem tok135 : TypeOk Try.prog 135 ti135 := typeOk_of (j := Try.t135) (ju := Try.t21) (by kernel_rfl) (by kernel_rfl)
theorem tok136 : TypeOk Try.prog 136 ti136 := typeOk_of (j := Try.t136) (ju := Try.t136) (by kernel_rfl) (by kernel_rfl)
theorem tok137 : TypeOk Try.prog 137 ti137 := typeOk_of (j := Try.t137) (ju := Try.t136) (by kernel_rfl) (by kernel_rfl)
theorem tok138 : TypeOk Try.prog 138 ti138 := typeOk_of (j := Try.t138) (ju := Try.t138) (by kernel_rfl) (by kernel_rfl)
theorem fok0 : FuncOk Try.prog 0 Try.f0 := funcOk_of Try.func0 (by kernel_rfl) (by kernel_rfl)
theorem fok1 : FuncOk Try.prog 1 Try.f1 := funcOk_of Try.func1 (by kernel_rfl) (by kernel_rfl)
theorem fok2 : FuncOk Try.prog 2 Try.f2 := funcOk_of Try.func2 (by kernel_rfl) (by kernel_rfl)
theorem fok3 : FuncOk Try.prog 3 Try.f3 := funcOk_of Try.func3 (by kernel_rfl) (by kernel_rfl)
theorem fok4 : FuncOk Try.prog 4 Try.f4 := funcOk_of Try.func4 (by kernel_rfl) (by kernel_rfl)
theorem fok5 : FuncOk Try.prog 5 Try.f5 := funcOk_of Try.func5 (by kernel_rfl) (by kernel_rfl)
theorem fok6 : FuncOk Try.prog 6 Try.f6 := funcOk_of Try.func6 (by kernel_rfl) (by kernel_rfl)
theorem fok7 : FuncOk Try.prog 7 Try.f7 := funcOk_of Try.func7 (by kernel_rfl) (by kernel_rfl)
theorem fok8 : FuncOk Try.prog 8 Try.f8 := funcOk_of Try.func8 (by kernel_rfl) (by kernel_rfl)
theorem fok9 : FuncOk Try.prog 9 Try.f9 := funcOk_of Try.func9 (by kernel_rfl) (by kernel_rfl)
theorem fok10 : FuncOk Try.prog 10 Try.f10 := funcOk_of Try.func10 (by kernel_rfl) (by kernel_rfl)
theorem fok11 : FuncOk Try.prog 11 Try.f11 := funcOk_of Try.func11 (by kernel_rfl) (by kernel_rfl)
theorem fok12 : FuncOk Try.prog 12 Try.f12 := funcOk_of Try.func12 (by kernel_rfl) (by kernel_rfl)
theorem fok13 : FuncOk Try.prog 13 Try.f13 := funcOk_of Try.func13 (by kernel_rfl) (by kernel_rfl)
theorem fok14 : FuncOk Try.prog 14 Try.f14 := funcOk_of Try.func14 (by kernel_rfl) (by kernel_rfl)
theorem fok15 : FuncOk Try.prog 15 Try.f15 := funcOk_of Try.func15 (by kernel_rfl) (by kernel_rfl)
theorem fok16 : FuncOk Try.prog 16 Try.f16 := funcOk_of Try.func16 (by kernel_rfl) (by kernel_rfl)
theorem fok17 : FuncOk Try.prog 17 Try.f17 := funcOk_of Try.func17 (by kernel_rfl) (by kernel_rfl)
theorem fok18 : FuncOk Try.prog 18 Try.f18 := funcOk_of Try.func18 (by kernel_rfl) (by kernel_rfl)
theorem fok19 : FuncOk Try.prog 19 Try.f19 := funcOk_of Try.func19 (by kernel_rfl) (by kernel_rfl)
theorem fok20 : FuncOk Try.prog 20 Try.f20 := funcOk_of Try.func20 (by kernel_rfl) (by kernel_rfl)
theorem fok21 : FuncOk Try.prog 21 Try.f21 := funcOk_of Try.func21 (by kernel_rfl) (by kernel_rfl)
theorem fok22 : FuncOk Try.prog 22 Try.f22 := funcOk_of Try.func22 (by kernel_rfl) (by kernel_rfl)
theorem fok23 : FuncOk Try.prog 23 Try.f23 := funcOk_of Try.func23 (by kernel_rfl) (by kernel_rfl)
theorem fok24 : FuncOk Try.prog 24 Try.f24 := funcOk_of Try.func24 (by kernel_rfl) (by kernel_rfl)
theorem fok25 : FuncOk Try.prog 25 Try.f25 := funcOk_of Try.func25 (by kernel_rfl) (by kernel_rfl)
theorem fok26 : FuncOk Try.prog 26 Try.f26 := funcOk_of Try.func26 (by kernel_rfl) (by kernel_rfl)
theorem fok27 : FuncOk Try.prog 27 Try.f27 := funcOk_of Try.func27 (by kernel_rfl) (by kernel_rfl)
theorem fok28 : FuncOk Try.prog 28 Try.f28 := funcOk_of Try.func28 (by kernel_rfl) (by kernel_rfl)
theorem fok29 : FuncOk Try.prog 29 Try.f29 := funcOk_of Try.func29 (by kernel_rfl) (by kernel_rfl)
theorem fok30 : FuncOk Try.prog 30 Try.f30 := funcOk_of Try.func30 (by kernel_rfl) (by kernel_rfl)
theorem fok31 : FuncOk Try.prog 31 Try.f31 := funcOk_of Try.func31 (by kernel_rfl) (by kernel_rfl)
theorem fok32 : FuncOk Try.prog 32 Try.f32 := funcOk_of Try.func32 (by kernel_rfl) (by kernel_rfl)
theorem fok33 : FuncOk Try.prog 33 Try.f33 := funcOk_of Try.func33 (by kernel_rfl) (by kernel_rfl)
theorem fok34 : FuncOk Try.prog 34 Try.f34 := funcOk_of Try.func34 (by kernel_rfl) (by kernel_rfl)
theorem fok35 : FuncOk Try.prog 35 Try.f35 := funcOk_of Try.func35 (by kernel_rfl) (by kernel_rfl)
theorem fok36 : FuncOk Try.prog 36 Try.f36 := funcOk_of Try.func36 (by kernel_rfl) (by kernel_rfl)
theorem fok37 : FuncOk Try.prog 37 Try.f37 := funcOk_of Try.func37 (by kernel_rfl) (by kernel_rfl)
theorem fok38 : FuncOk Try.prog 38 Try.f38 := funcOk_of Try.func38 (by kernel_rfl) (by kernel_rfl)
theorem fok39 : FuncOk Try.prog 39 Try.f39 := funcOk_of Try.func39 (by kernel_rfl) (by kernel_rfl)
theorem fok40 : FuncOk Try.prog 40 Try.f40 := funcOk_of Try.func40 (by kernel_rfl) (by kernel_rfl)
theorem fok41 : FuncOk Try.prog 41 Try.f41 := funcOk_of Try.func41 (by kernel_rfl) (by kernel_rfl)
theorem fok42 : FuncOk Try.prog 42 Try.f42 := funcOk_of Try.func42 (by kernel_rfl) (by kernel_rfl)
theorem fok43 : FuncOk Try.prog 43 Try.f43 := funcOk_of Try.func43 (by kernel_rfl) (by kernel_rfl)
theorem fok44 : FuncOk Try.prog 44 Try.f44 := funcOk_of Try.func44 (by kernel_rfl) (by kernel_rfl)
theorem fok45 : FuncOk Try.prog 45 Try.f45 := funcOk_of Try.func45 (by kernel_rfl) (by kernel_rfl)
theorem fok46 : FuncOk Try.prog 46 Try.f46 := funcOk_of Try.func46 (by kernel_rfl) (by kernel_rfl)
theorem fok47 : FuncOk Try.prog 47 Try.f47 := funcOk_of Try.func47 (by kernel_rfl) (by kernel_rfl)
theorem fok48 : FuncOk Try.prog 48 Try.f48 := funcOk_of Try.func48 (by kernel_rfl) (by kernel_rfl)
theorem fok49 : FuncOk Try.prog 49 Try.f49 := funcOk_of Try.func49 (by kernel_rfl) (by kernel_rfl)
theorem fok50 : FuncOk Try.prog 50 Try.f50 := funcOk_of Try.func50 (by kernel_rfl) (by kernel_rfl)
theorem fok51 : FuncOk Try.prog 51 Try.f51 := funcOk_of Try.func51 (by kernel_rfl) (by kernel_rfl)
theorem fok52 : FuncOk Try.prog 52 Try.f52 := funcOk_of Try.func52 (by kernel_rfl) (by kernel_rfl)
theorem fok53 : FuncOk Try.prog 53 Try.f53 := funcOk_of Try.func53 (by kernel_rfl) (by kernel_rfl)
theorem fok54 : FuncOk Try.prog 54 Try.f54 := funcOk_of Try.func54 (by kernel_rfl) (by kernel_rfl)
theorem fok55 : FuncOk Try.prog 55 Try.f55 := funcOk_of Try.func55 (by kernel_rfl) (by kernel_rfl)
theorem fok56 : FuncOk Try.prog 56 Try.f56 := funcOk_of Try.func56 (by kernel_rfl) (by kernel_rfl)
theorem fok57 : FuncOk Try.prog 57 Try.f57 := funcOk_of Try.func57 (by kernel_rfl) (by kernel_rfl)
theorem fok58 : FuncOk Try.prog 58 Try.f58 := funcOk_of Try.func58 (by kernel_rfl) (by kernel_rfl)
theorem fok59 : FuncOk Try.prog 59 Try.f59 := funcOk_of Try.func59 (by kernel_rfl) (by kernel_rfl)
theorem fok60 : FuncOk Try.prog 60 Try.f60 := funcOk_of Try.func60 (by kernel_rfl) (by kernel_rfl)
theorem fok61 : FuncOk Try.prog 61 Try.f61 := funcOk_of Try.func61 (by kernel_rfl) (by kernel_rfl)
theorem fok62 : FuncOk Try.prog 62 Try.f62 := funcOk_of Try.func62 (by kernel_rfl) (by kernel_rfl)
theorem fok63 : FuncOk Try.prog 63 Try.f63 := funcOk_of Try.func63 (by kernel_rfl) (by kernel_rfl)
theorem fok64 : FuncOk Try.prog 64 Try.f64 := funcOk_of Try.func64 (by kernel_rfl) (by kernel_rfl)
theorem fok65 : FuncOk Try.prog 65 Try.f65 := funcOk_of Try.func65 (by kernel_rfl) (by kernel_rfl)
theorem fok66 : FuncOk Try.prog 66 Try.f66 := funcOk_of Try.func66 (by kernel_rfl) (by kernel_rfl)
theorem fok67 : FuncOk Try.prog 67 Try.f67 := funcOk_of Try.func67 (by kernel_rfl) (by kernel_rfl)
theorem fok68 : FuncOk Try.prog 68 Try.f68 := funcOk_of Try.func68 (by kernel_rfl) (by kernel_rfl)
theorem fok69 : FuncOk Try.prog 69 Try.f69 := funcOk_of Try.func69 (by kernel_rfl) (by kernel_rfl)
theorem fok70 : FuncOk Try.prog 70 Try.f70 := funcOk_of Try.func70 (by kernel_rfl) (by kernel_rfl)
theorem fok71 : FuncOk Try.prog 71 Try.f71 := funcOk_of Try.func71 (by kernel_rfl) (by kernel_rfl)
theorem fok72 : FuncOk Try.prog 72 Try.f72 := funcOk_of Try.func72 (by kernel_rfl) (by kernel_rfl)
theorem fok73 : FuncOk Try.prog 73 Try.f73 := funcOk_of Try.func73 (by kernel_rfl) (by kernel_rfl)
theorem fok74 : FuncOk Try.prog 74 Try.f74 := funcOk_of Try.func74 (by kernel_rfl) (by kernel_rfl)
theorem fok75 : FuncOk Try.prog 75 Try.f75 := funcOk_of Try.func75 (by kernel_rfl) (by kernel_rfl)
theorem fok76 : FuncOk Try.prog 76 Try.f76 := funcOk_of Try.func76 (by kernel_rfl) (by kernel_rfl)
theorem fok77 : FuncOk Try.prog 77 Try.f77 := funcOk_of Try.func77 (by kernel_rfl) (by kernel_rfl)
theorem fok78 : FuncOk Try.prog 78 Try.f78 := funcOk_of Try.func78 (by kernel_rfl) (by kernel_rfl)
theorem fok79 : FuncOk Try.prog 79 Try.f79 := funcOk_of Try.func79 (by kernel_rfl) (by kernel_rfl)
theorem fok80 : FuncOk Try.prog 80 Try.f80 := funcOk_of Try.func80 (by kernel_rfl) (by kernel_rfl)
theorem fok81 : FuncOk Try.prog 81 Try.f81 := funcOk_of Try.func81 (by kernel_rfl) (by kernel_rfl)
theorem fok82 : FuncOk Try.prog 82 Try.f82 := funcOk_of Try.func82 (by kernel_rfl) (by kernel_rfl)
theorem fok83 : FuncOk Try.prog 83 Try.f83 := funcOk_of Try.func83 (by kernel_rfl) (by kernel_rfl)
theorem fok84 : FuncOk Try.prog 84 Try.f84 := funcOk_of Try.func84 (by kernel_rfl) (by kernel_rfl)
theorem fok85 : FuncOk Try.prog 85 Try.f85 := funcOk_of Try.func85 (by kernel_rfl) (by kernel_rfl)
theorem fok86 : FuncOk Try.prog 86 Try.f86 := funcOk_of Try.func86 (by kernel_rfl) (by kernel_rfl)
theorem fok87 : FuncOk Try.prog 87 Try.f87 := funcOk_of Try.func87 (by kernel_rfl) (by kernel_rfl)
theorem fok88 : FuncOk Try.prog 88 Try.f88 := funcOk_of Try.func88 (by kernel_rfl) (by kernel_rfl)
theorem fok89 : FuncOk Try.prog 89 Try.f89 := funcOk_of Try.func89 (by kernel_rfl) (by kernel_rfl)
theorem fok90 : FuncOk Try.prog 90 Try.f90 := funcOk_of Try.func90 (by kernel_rfl) (by kernel_rfl)
theorem fok91 : FuncOk Try.prog 91 Try.f91 := funcOk_of Try.func91 (by kernel_rfl) (by kernel_rfl)
theorem fok92 : FuncOk Try.prog 92 Try.f92 := funcOk_of Try.func92 (by kernel_rfl) (by kernel_rfl)
theorem fok93 : FuncOk Try.prog 93 Try.f93 := funcOk_of Try.func93 (by kernel_rfl) (by kernel_rfl)
theorem fok94 : FuncOk Try.prog 94 Try.f94 := funcOk_of Try.func94 (by kernel_rfl) (by kernel_rfl)
theorem fok95 : FuncOk Try.prog 95 Try.f95 := funcOk_of Try.func95 (by kernel_rfl) (by kernel_rfl)
theorem fok96 : FuncOk Try.prog 96 Try.f96 := funcOk_of Try.func96 (by kernel_rfl) (by kernel_rfl)
theorem fok97 : FuncOk Try.prog 97 Try.f97 := funcOk_of Try.func97 (by kernel_rfl) (by kernel_rfl)
theorem tab_ok : tab.Ok Try.prog := tabOk_of
  (show AllP (TypeOk Try.prog) types.toList from ⟨tok0, tok1, tok3, tok7, tok15, tok31, tok63, tok127, tok95, tok47, tok79, tok111, tok23, tok39, tok71, tok135, tok103, tok55, tok87, tok119, tok11, tok19, tok35, tok67, tok131, tok99, tok51, tok83, tok115, tok27, tok43, tok75, tok107, tok59, tok91, tok123, tok5, tok9, tok17, tok33, tok65, tok129, tok97, tok49, tok81, tok113, tok25, tok41, tok73, tok137, tok105, tok57, tok89, tok121, tok13, tok21, tok37, tok69, tok133, tok101, tok53, tok85, tok117, tok29, tok45, tok77, tok109, tok61, tok93, tok125, tok2, tok4, tok8, tok16, tok32, tok64, tok128, tok96, tok48, tok80, tok112, tok24, tok40, tok72, tok136, tok104, tok56, tok88, tok120, tok12, tok20, tok36, tok68, tok132, tok100, tok52, tok84, tok116, tok28, tok44, tok76, tok108, tok60, tok92, tok124, tok6, tok10, tok18, tok34, tok66, tok130, tok98, tok50, tok82, tok114, tok26, tok42, tok74, tok138, tok106, tok58, tok90, tok122, tok14, tok22, tok38, tok70, tok134, tok102, tok54, tok86, tok118, tok30, tok46, tok78, tok110, tok62, tok94, tok126, trivial⟩)
  (show AllP (FuncOk Try.prog) funcs.toList from ⟨fok0, fok1, fok3, fok7, fok15, fok31, fok63, fok95, fok47, fok79, fok23, fok39, fok71, fok55, fok87, fok11, fok19, fok35, fok67, fok51, fok83, fok27, fok43, fok75, fok59, fok91, fok5, fok9, fok17, fok33, fok65, fok97, fok49, fok81, fok25, fok41, fok73, fok57, fok89, fok13, fok21, fok37, fok69, fok53, fok85, fok29, fok45, fok77, fok61, fok93, fok2, fok4, fok8, fok16, fok32, fok64, fok96, fok48, fok80, fok24, fok40, fok72, fok56, fok88, fok12, fok20, fok36, fok68, fok52, fok84, fok28, fok44, fok76, fok60, fok92, fok6, fok10, fok18, fok34, fok66, fok50, fok82, fok26, fok42, fok74, fok58, fok90, fok14, fok22, fok38, fok70, fok54, fok86, fok30, fok46, fok78, fok62, fok94, trivial⟩)
  Try.checked.mixed rfl
end Go.Ai.TabYtpiblfbidgcjaaa

/- The examples of this seat's laws, settled once. -/
namespace Go.Ai.TabYtpiblfbidgcjaaa
open Go Go.Ai Go.Proofs

def isTrue : Option (CRes × AHeap) → Bool
  | some (.ret (.bool true), _) => true
  | _ => false

theorem isTrue_of {x : Option (CRes × AHeap)} (h : isTrue x = true) : ∃ h', x = some (.ret (.bool true), h') := by
  unfold isTrue at h
  split at h
  · exact ⟨_, rfl⟩
  · cases h

theorem known : isTrue (acallFn tab (aexec tab 300) 12 [] ⟨.leaf, 0, 0⟩) = true := by kernel_rfl

noncomputable def ktab : Tab := { tab with consts := tab.consts.set 12 (.bool true) }
theorem ktab_ok : ktab.Ok Try.prog := by
  obtain ⟨h', h⟩ := isTrue_of known
  exact tab_ok.const h

end Go.Ai.TabYtpiblfbidgcjaaa

/- Written by program: the data of the functions, and the functions as plain Lean. -/
namespace Go.Ai.Sx
abbrev StableTrack : Type := Int × Bool × Unit
abbrev StableCar : Type := Int × Int × Int × Int × Unit
abbrev StableLeave : Type := Int × Int × Unit
abbrev depot_night : Type := (List StableTrack) × (List StableCar) × (List StableLeave) × Unit
abbrev StablePlan : Type := (List Int) × (List Int) × Int × Unit
abbrev WashJob : Type := Int × Int × Int × Unit
abbrev depot_wash : Type := (List Int) × Int × Int × Unit
abbrev StableMove : Type := Int × Int × Int × Unit
abbrev rStableTrack : Rep StableTrack := (rPair (rInt .i64) (rPair rBool rUnit))
theorem fk_StableTrack_0 : FOk rStableTrack 0 (rInt .i64) (fun x => x.1) (fun x y => (y, x.2.1, ())) := FOk.off FOk.here rfl
theorem fk_StableTrack_1 : FOk rStableTrack 1 rBool (fun x => x.2.1) (fun x y => (x.1, y, ())) := FOk.off (FOk.there FOk.here) rfl
abbrev rStableCar : Rep StableCar := (rPair (rInt .i64) (rPair (rInt .i64) (rPair (rInt .i64) (rPair (rInt .i64) rUnit))))
theorem fk_StableCar_0 : FOk rStableCar 0 (rInt .i64) (fun x => x.1) (fun x y => (y, x.2.1, x.2.2.1, x.2.2.2.1, ())) := FOk.off FOk.here rfl
theorem fk_StableCar_1 : FOk rStableCar 1 (rInt .i64) (fun x => x.2.1) (fun x y => (x.1, y, x.2.2.1, x.2.2.2.1, ())) := FOk.off (FOk.there FOk.here) rfl
theorem fk_StableCar_2 : FOk rStableCar 2 (rInt .i64) (fun x => x.2.2.1) (fun x y => (x.1, x.2.1, y, x.2.2.2.1, ())) := FOk.off (FOk.there (FOk.there FOk.here)) rfl
theorem fk_StableCar_3 : FOk rStableCar 3 (rInt .i64) (fun x => x.2.2.2.1) (fun x y => (x.1, x.2.1, x.2.2.1, y, ())) := FOk.off (FOk.there (FOk.there (FOk.there FOk.here))) rfl
abbrev rStableLeave : Rep StableLeave := (rPair (rInt .i64) (rPair (rInt .i64) rUnit))
theorem fk_StableLeave_0 : FOk rStableLeave 0 (rInt .i64) (fun x => x.1) (fun x y => (y, x.2.1, ())) := FOk.off FOk.here rfl
theorem fk_StableLeave_1 : FOk rStableLeave 1 (rInt .i64) (fun x => x.2.1) (fun x y => (x.1, y, ())) := FOk.off (FOk.there FOk.here) rfl
abbrev rdepot_night : Rep depot_night := (rPair (rSlice rStableTrack) (rPair (rSlice rStableCar) (rPair (rSlice rStableLeave) rUnit)))
theorem fk_depot_night_0 : FOk rdepot_night 0 (rSlice rStableTrack) (fun x => x.1) (fun x y => (y, x.2.1, x.2.2.1, ())) := FOk.off FOk.here rfl
theorem fk_depot_night_1 : FOk rdepot_night 1 (rSlice rStableCar) (fun x => x.2.1) (fun x y => (x.1, y, x.2.2.1, ())) := FOk.off (FOk.there FOk.here) rfl
theorem fk_depot_night_2 : FOk rdepot_night 2 (rSlice rStableLeave) (fun x => x.2.2.1) (fun x y => (x.1, x.2.1, y, ())) := FOk.off (FOk.there (FOk.there FOk.here)) rfl
abbrev rStablePlan : Rep StablePlan := (rPair (rSlice (rInt .i64)) (rPair (rSlice (rInt .i64)) (rPair (rInt .i64) rUnit)))
theorem fk_StablePlan_0 : FOk rStablePlan 0 (rSlice (rInt .i64)) (fun x => x.1) (fun x y => (y, x.2.1, x.2.2.1, ())) := FOk.off FOk.here rfl
theorem fk_StablePlan_1 : FOk rStablePlan 1 (rSlice (rInt .i64)) (fun x => x.2.1) (fun x y => (x.1, y, x.2.2.1, ())) := FOk.off (FOk.there FOk.here) rfl
theorem fk_StablePlan_2 : FOk rStablePlan 2 (rInt .i64) (fun x => x.2.2.1) (fun x y => (x.1, x.2.1, y, ())) := FOk.off (FOk.there (FOk.there FOk.here)) rfl
abbrev rWashJob : Rep WashJob := (rPair (rInt .i64) (rPair (rInt .i64) (rPair (rInt .i64) rUnit)))
theorem fk_WashJob_0 : FOk rWashJob 0 (rInt .i64) (fun x => x.1) (fun x y => (y, x.2.1, x.2.2.1, ())) := FOk.off FOk.here rfl
theorem fk_WashJob_1 : FOk rWashJob 1 (rInt .i64) (fun x => x.2.1) (fun x y => (x.1, y, x.2.2.1, ())) := FOk.off (FOk.there FOk.here) rfl
theorem fk_WashJob_2 : FOk rWashJob 2 (rInt .i64) (fun x => x.2.2.1) (fun x y => (x.1, x.2.1, y, ())) := FOk.off (FOk.there (FOk.there FOk.here)) rfl
abbrev rdepot_wash : Rep depot_wash := (rPair (rSlice (rInt .i64)) (rPair (rInt .i64) (rPair (rInt .i64) rUnit)))
theorem fk_depot_wash_0 : FOk rdepot_wash 0 (rSlice (rInt .i64)) (fun x => x.1) (fun x y => (y, x.2.1, x.2.2.1, ())) := FOk.off FOk.here rfl
theorem fk_depot_wash_1 : FOk rdepot_wash 1 (rInt .i64) (fun x => x.2.1) (fun x y => (x.1, y, x.2.2.1, ())) := FOk.off (FOk.there FOk.here) rfl
theorem fk_depot_wash_2 : FOk rdepot_wash 2 (rInt .i64) (fun x => x.2.2.1) (fun x y => (x.1, x.2.1, y, ())) := FOk.off (FOk.there (FOk.there FOk.here)) rfl
abbrev rStableMove : Rep StableMove := (rPair (rInt .i64) (rPair (rInt .i64) (rPair (rInt .i64) rUnit)))
theorem fk_StableMove_0 : FOk rStableMove 0 (rInt .i64) (fun x => x.1) (fun x y => (y, x.2.1, x.2.2.1, ())) := FOk.off FOk.here rfl
theorem fk_StableMove_1 : FOk rStableMove 1 (rInt .i64) (fun x => x.2.1) (fun x y => (x.1, y, x.2.2.1, ())) := FOk.off (FOk.there FOk.here) rfl
theorem fk_StableMove_2 : FOk rStableMove 2 (rInt .i64) (fun x => x.2.2.1) (fun x y => (x.1, x.2.1, y, ())) := FOk.off (FOk.there (FOk.there FOk.here)) rfl
def g_depot_within (n_0 : Int) (low_1 : Int) (high_2 : Int) : Option (Bool) :=
Option.bind (cond ((decide (n_0 ≥ low_1))) (some ((decide (n_0 ≤ high_2)))) (some false)) fun c2 =>
some c2
def g_depot_permutation (l_0 : (List Int)) : Option (Bool) :=
Option.bind (mkO 1 ((lenI l_0)) (false : Bool)) fun x1 =>
Option.bind (iter (σ := (Int × (List Bool))) (τ := ((List Bool)) ⊕ (Bool × (List Bool))) (fun s26 =>
cond ((decide (s26.1 < (lenI l_0)))) (Option.bind (idx l_0 s26.1) fun x29 =>
Option.bind (g_depot_within x29 0 ((w64 ((lenI l_0) - 1)))) fun y33 =>
cond ((!y33)) (some (.inr ((.inr ((false, s26.2)))))) (Option.bind (idx s26.2 x29) fun x36 =>
cond (x36) (some (.inr ((.inr ((false, s26.2)))))) (Option.bind (idx s26.2 x29) fun x38 =>
some (.inl (((w64 (s26.1 + 1)), (s26.2).set (Int.toNat x29) true)))))) (some (.inr ((.inl s26.2))))) big ((0, x1))) fun t39 =>
alt (fun b41 => some true) (fun b42 => some b42.1) t39
def g_depot_leaving_through (l_0 : (List Int)) (i_1 : Int) (j_2 : Int) : Option (Bool) :=
Option.bind (idx l_0 j_2) fun x1 =>
Option.bind (idx l_0 i_1) fun x2 =>
some ((decide (x1 < x2)))
def g_depot_leaving_dead (l_0 : (List Int)) (i_1 : Int) (j_2 : Int) : Option (Bool) :=
Option.bind (idx l_0 i_1) fun x1 =>
Option.bind (idx l_0 j_2) fun x2 =>
some ((decide (x1 < x2)))
def g_depot_leaving_way (l_0 : (List Int)) (through_1 : Bool) : Option (((Int × Int) → Option (Bool))) :=
cond (through_1) (some ((fun x => g_depot_leaving_through l_0 x.1 x.2))) (some ((fun x => g_depot_leaving_dead l_0 x.1 x.2)))
def g_slices_IndexFunc_int_int (s_0 : (List Int)) (f_1 : ((Int) → Option (Bool))) : Option (Int) :=
Option.bind (iter (σ := (Int)) (τ := Unit ⊕ (Int)) (fun s5 =>
cond ((decide (s5 < (lenI s_0)))) (Option.bind (idx s_0 s5) fun x8 =>
Option.bind (f_1 x8) fun y9 =>
cond (y9) (some (.inr ((.inr s5)))) (some (.inl ((w64 (s5 + 1)))))) (some (.inr ((.inl (())))))) big 0) fun t11 =>
alt (fun b13 => some ((-1))) (fun b14 => some b14) t11
def g_slices_ContainsFunc_int_int (s_0 : (List Int)) (f_1 : ((Int) → Option (Bool))) : Option (Bool) :=
Option.bind (g_slices_IndexFunc_int_int s_0 f_1) fun y1 =>
some ((decide (y1 ≥ 0)))
def g_depot_Assign_1 (i_0 : Int) (p_1 : ((Int × Int) → Option (Bool))) (p_2 : Int) : Option (Bool) :=
Option.bind (p_1 ((i_0, p_2))) fun y1 =>
some y1
def g_depot_Assign (p_0 : (List Int)) (p_1 : Bool) : Option ((List Int) × (List Int) × Int) :=
Option.bind (cond ((decide ((lenI p_0) > 200))) (some true) (Option.bind (g_depot_permutation p_0) fun y7 =>
some ((!y7)))) fun c5 =>
cond (c5) (some (([], [], 2))) (Option.bind (g_depot_leaving_way p_0 p_1) fun y11 =>
Option.bind (iter (σ := ((List (List Int)) × (List Int) × Int)) (τ := ((List (List Int)) × (List Int))) (fun s85 =>
cond ((decide (s85.2.2 < (lenI p_0)))) (Option.bind (iter (σ := ((List Int) × Int × (List (List Int)))) (τ := ((List Int) × (List (List Int))) ⊕ ((List Int) × (List (List Int)))) (fun s124 =>
cond ((decide (s124.2.1 < (lenI s85.1)))) (Option.bind (idx s124.2.2 s124.2.1) fun x131 =>
Option.bind (g_slices_ContainsFunc_int_int x131 ((fun x => g_depot_Assign_1 x y11 s85.2.2))) fun y134 =>
cond ((!y134)) (Option.bind (appO 8 x131 ([s85.2.2])) fun x137 =>
Option.bind (appO 8 s124.1 ([s124.2.1])) fun x139 =>
some (.inr ((.inl ((x139, (s124.2.2).set (Int.toNat s124.2.1) x137)))))) (some (.inl ((s124.1, (w64 (s124.2.1 + 1)), s124.2.2))))) (some (.inr ((.inr ((s124.1, s124.2.2))))))) big ((s85.2.1, 0, s85.1))) fun t144 =>
alt (fun b146 => some (.inl ((b146.2, b146.1, (w64 (s85.2.2 + 1)))))) (fun b147 => Option.bind (appO 8 b147.1 ([(lenI b147.2)])) fun x155 =>
Option.bind (appO 24 b147.2 [[s85.2.2]]) fun x159 =>
some (.inl ((x159, x155, (w64 (s85.2.2 + 1)))))) t144) (some (.inr (((s85.1, s85.2.1)))))) big (([], [], 0))) fun t167 =>
Option.bind (mkO 8 ((lenI p_0)) (0 : Int)) fun x173 =>
Option.bind (iter (σ := (Int × (List Int))) (τ := ((List Int))) (fun s228 =>
cond ((decide (s228.1 ≥ 0))) (Option.bind (iter (σ := (Int × (List Int))) (τ := ((List Int))) (fun s243 =>
cond ((decide (s243.1 < (lenI p_0)))) (Option.bind (y11 ((s228.1, s243.1))) fun y246 =>
cond (y246) (Option.bind (idx s243.2 s228.1) fun x248 =>
Option.bind (idx s243.2 s243.1) fun x249 =>
Option.bind (idx s243.2 s228.1) fun x250 =>
some (.inl (((w64 (s243.1 + 1)), (s243.2).set (Int.toNat s228.1) ((max x248 x249)))))) (some (.inl (((w64 (s243.1 + 1)), s243.2))))) (some (.inr s243.2))) big (((w64 (s228.1 + 1)), s228.2))) fun t251 =>
Option.bind (idx t251 s228.1) fun x254 =>
Option.bind (idx t251 s228.1) fun x255 =>
some (.inl (((w64 (s228.1 - 1)), (t251).set (Int.toNat s228.1) ((w64 (x254 + 1))))))) (some (.inr s228.2))) big (((w64 ((lenI p_0) - 1)), x173))) fun t256 =>
Option.bind (iter (σ := ((List Int) × Int × Int)) (τ := ((List Int))) (fun s280 =>
cond ((decide (s280.2.2 < (lenI p_0)))) (Option.bind (idx t256 s280.2.2) fun x291 =>
cond ((x291 == s280.2.1)) (cond (((lenI s280.1) == 0)) (Option.bind (appO 8 s280.1 ([s280.2.2])) fun x295 =>
some (.inl ((x295, (w64 (s280.2.1 - 1)), (w64 (s280.2.2 + 1)))))) (Option.bind (idx s280.1 ((w64 ((lenI s280.1) - 1)))) fun x298 =>
Option.bind (y11 ((x298, s280.2.2))) fun y299 =>
cond (y299) (Option.bind (appO 8 s280.1 ([s280.2.2])) fun x301 =>
some (.inl ((x301, (w64 (s280.2.1 - 1)), (w64 (s280.2.2 + 1)))))) (some (.inl ((s280.1, s280.2.1, (w64 (s280.2.2 + 1)))))))) (some (.inl ((s280.1, s280.2.1, (w64 (s280.2.2 + 1))))))) (some (.inr s280.1))) big (([], (lenI t167.1), 0))) fun t308 =>
some ((t167.2, t308, 0)))
def g_ref09_Same (a_0 : (List Int)) (b_1 : (List Int)) : Option (Bool) :=
cond (((lenI a_0) != (lenI b_1))) (some false) (Option.bind (iter (σ := (Int)) (τ := Unit ⊕ (Bool)) (fun s6 =>
cond ((decide (s6 < (lenI a_0)))) (Option.bind (idx a_0 s6) fun x9 =>
Option.bind (idx b_1 s6) fun x10 =>
cond ((x9 != x10)) (some (.inr ((.inr false)))) (some (.inl ((w64 (s6 + 1)))))) (some (.inr ((.inl (())))))) big 0) fun t12 =>
alt (fun b14 => some true) (fun b15 => some b15) t12)
def g_depot_night_valid (p_0 : depot_night) : Option (Bool) :=
Option.bind (Option.bind (g_depot_within ((lenI p_0.1)) 1 5) fun y5 =>
cond ((!y5)) (some true) (cond (((lenI p_0.2.1) != (lenI p_0.2.2.1))) (some true) (some ((decide ((lenI p_0.2.1) > 9)))))) fun c4 =>
cond (c4) (some false) (Option.bind (iter (σ := (Int)) (τ := Unit ⊕ (Bool)) (fun s15 =>
cond ((decide (s15 < (lenI p_0.1)))) (Option.bind (idx p_0.1 s15) fun x18 =>
Option.bind (g_depot_within x18.1 0 10000000) fun y21 =>
cond ((!y21)) (some (.inr ((.inr false)))) (some (.inl ((w64 (s15 + 1)))))) (some (.inr ((.inl (())))))) big 0) fun t23 =>
alt (fun b25 => Option.bind (iter (σ := (Int)) (τ := Unit ⊕ (Bool)) (fun s58 =>
cond ((decide (s58 < (lenI p_0.2.1)))) (Option.bind (idx p_0.2.1 s58) fun x61 =>
Option.bind (g_depot_within x61.1 0 100) fun y74 =>
cond ((!y74)) (some (.inr ((.inr false)))) (Option.bind (g_depot_within x61.2.1 1 10000000) fun y77 =>
cond ((!y77)) (some (.inr ((.inr false)))) (Option.bind (g_depot_within x61.2.2.1 0 200000) fun y80 =>
cond ((!y80)) (some (.inr ((.inr false)))) (Option.bind (g_depot_within x61.2.2.2.1 0 200000) fun y83 =>
cond ((!y83)) (some (.inr ((.inr false)))) (cond ((decide (s58 > 0))) (Option.bind (idx p_0.2.1 ((w64 (s58 - 1)))) fun x87 =>
cond ((decide (x61.2.2.1 < x87.2.2.1))) (some (.inr ((.inr false)))) (some (.inl ((w64 (s58 + 1)))))) (some (.inl ((w64 (s58 + 1)))))))))) (some (.inr ((.inl (())))))) big 0) fun t90 =>
alt (fun b92 => Option.bind (iter (σ := (Int)) (τ := Unit ⊕ (Bool)) (fun s115 =>
cond ((decide (s115 < (lenI p_0.2.2.1)))) (Option.bind (idx p_0.2.2.1 s115) fun x118 =>
Option.bind (g_depot_within x118.1 0 100) fun y127 =>
cond ((!y127)) (some (.inr ((.inr false)))) (Option.bind (g_depot_within x118.2.1 0 200000) fun y130 =>
cond ((!y130)) (some (.inr ((.inr false)))) (cond ((decide (s115 > 0))) (Option.bind (idx p_0.2.2.1 ((w64 (s115 - 1)))) fun x134 =>
cond ((decide (x118.2.1 < x134.2.1))) (some (.inr ((.inr false)))) (some (.inl ((w64 (s115 + 1)))))) (some (.inl ((w64 (s115 + 1)))))))) (some (.inr ((.inl (())))))) big 0) fun t137 =>
alt (fun b139 => some true) (fun b140 => some b140) t137) (fun b93 => some b93) t90) (fun b26 => some b26) t23)
def g_depot_night_quiet (n_0 : depot_night) : Option (Bool) :=
Option.bind (cond (((lenI n_0.2.1) == 0)) (some true) (Option.bind (idx n_0.2.1 ((w64 ((lenI n_0.2.1) - 1)))) fun x6 =>
Option.bind (idx n_0.2.2.1 0) fun x7 =>
some ((decide (x6.2.2.1 ≤ x7.2.1))))) fun c4 =>
some c4
def g_slices_Clone_int_int (s_0 : (List Int)) : Option (List Int) := appO 8 [] s_0
def g_depot_night_fit (n_0 : depot_night) (tracks_1 : (List Int)) : Option (Bool) :=
Option.bind (mkO 8 ((lenI n_0.1)) (0 : Int)) fun x1 =>
Option.bind (iter (σ := (Int × (List Int))) (τ := ((List Int)) ⊕ (Bool × (List Int))) (fun s20 =>
cond ((decide (s20.1 < (lenI tracks_1)))) (Option.bind (idx tracks_1 s20.1) fun x23 =>
Option.bind (idx s20.2 x23) fun x24 =>
Option.bind (idx n_0.2.1 s20.1) fun x25 =>
Option.bind (idx s20.2 x23) fun x26 =>
Option.bind (idx ((s20.2).set (Int.toNat x23) ((w64 (x24 + x25.2.1)))) x23) fun x27 =>
Option.bind (idx n_0.1 x23) fun x28 =>
cond ((decide (x27 > x28.1))) (some (.inr ((.inr ((false, (s20.2).set (Int.toNat x23) ((w64 (x24 + x25.2.1))))))))) (some (.inl (((w64 (s20.1 + 1)), (s20.2).set (Int.toNat x23) ((w64 (x24 + x25.2.1)))))))) (some (.inr ((.inl s20.2))))) big ((0, x1))) fun t30 =>
alt (fun b32 => some true) (fun b33 => some b33.1) t30
def g_depot_night_tracked_1_1_body {σ τ : Type} (step : σ → ((List Int)) → Option (σ ⊕ τ)) (rec : σ → (List Int) → depot_night → Option ((Bool) × (σ ⊕ τ))) (s_ : σ) (tracks_0 : (List Int)) (p_1 : depot_night) : Option ((Bool) × (σ ⊕ τ)) :=
Option.bind (g_depot_night_fit p_1 tracks_0) fun y1 =>
cond ((!y1)) (some ((true, (.inl s_)))) (cond (((lenI tracks_0) == (lenI p_1.2.1))) (Option.bind (step s_ tracks_0) fun y4 =>
some (((y4).isLeft, y4))) (Option.bind (iter (σ := (Int × (σ ⊕ τ))) (τ := ((σ ⊕ τ)) ⊕ ((Bool × (σ ⊕ τ)))) (fun s25 =>
cond ((decide (s25.1 < (lenI p_1.1)))) (Option.bind (g_slices_Clone_int_int tracks_0) fun y28 =>
Option.bind (appO 8 y28 ([s25.1])) fun x31 =>
Option.bind (goL s25.2) fun s33 =>
Option.bind (rec s33 x31 p_1) fun y34 =>
cond ((!y34.1)) (some (.inr ((.inr ((false, y34.2)))))) (some (.inl (((w64 (s25.1 + 1)), y34.2))))) (some (.inr ((.inl s25.2))))) big ((0, (.inl s_)))) fun t37 =>
alt (fun b39 => some ((true, b39))) (fun b40 => some ((b40.1, b40.2))) t37))
def g_depot_night_tracked_1_1 {σ τ : Type} (step : σ → ((List Int)) → Option (σ ⊕ τ)) : Nat → σ → (List Int) → depot_night → Option ((Bool) × (σ ⊕ τ))
  | 0 => fun _ _ _ => none
  | k + 1 => g_depot_night_tracked_1_1_body step (g_depot_night_tracked_1_1 step k)
def g_depot_night_tracked_1 {σ τ : Type} (step : σ → ((List Int)) → Option (σ ⊕ τ)) (s_ : σ) (p_1 : depot_night) : Option ((σ ⊕ τ)) :=
Option.bind (g_depot_night_tracked_1_1 step big s_ ([]) p_1) fun y3 =>
some y3.2
def g_depot_night_tracked (n_0 : depot_night) : Option ((depot_night)) :=
some n_0
def g_slices_Index_int_int (s_0 : (List Int)) (v_1 : Int) : Option (Int) :=
Option.bind (iter (σ := (Int)) (τ := Unit ⊕ (Int)) (fun s4 =>
cond ((decide (s4 < (lenI s_0)))) (Option.bind (idx s_0 s4) fun x7 =>
cond ((v_1 == x7)) (some (.inr ((.inr s4)))) (some (.inl ((w64 (s4 + 1)))))) (some (.inr ((.inl (())))))) big 0) fun t9 =>
alt (fun b11 => some ((-1))) (fun b12 => some b12) t9
def g_slices_Contains_int_int (s_0 : (List Int)) (v_1 : Int) : Option (Bool) :=
Option.bind (g_slices_Index_int_int s_0 v_1) fun y1 =>
some ((decide (y1 ≥ 0)))
def g_depot_night_takes (n_0 : depot_night) (car_1 : Int) (leave_2 : Int) : Option (Bool) :=
Option.bind (idx n_0.2.1 car_1) fun x1 =>
Option.bind (idx n_0.2.2.1 leave_2) fun x2 =>
Option.bind (cond ((x1.1 == x2.1)) (cond ((decide (x1.2.2.1 ≤ x2.2.1))) (some ((decide (x2.2.1 ≤ x1.2.2.2.1)))) (some false)) (some false)) fun c9 =>
some c9
def g_slices_Reverse_int_int   (s_0 : (List Int)) : Option ((List Int)) :=
Option.bind (iter (σ := (Int × Int × (List Int))) (τ := ((List Int))) (fun s11 =>
cond ((decide (s11.1 < s11.2.1))) (Option.bind (idx s11.2.2 s11.2.1) fun x14 =>
Option.bind (idx s11.2.2 s11.1) fun x15 =>
Option.bind (idx s11.2.2 s11.1) fun x16 =>
Option.bind (idx ((s11.2.2).set (Int.toNat s11.1) x14) s11.2.1) fun x17 =>
some (.inl (((w64 (s11.1 + 1)), (w64 (s11.2.1 - 1)), ((s11.2.2).set (Int.toNat s11.1) x14).set (Int.toNat s11.2.1) x15)))) (some (.inr s11.2.2))) big ((0, (w64 ((lenI s_0) - 1)), s_0))) fun t18 =>
some t18
def g_depot_night_aside (p_0 : depot_night) (p_1 : (List Int)) (p_2 : Int) (p_3 : ((Int) → Option (Bool))) : Option ((List Int)) :=
Option.bind (iter (σ := ((List Int) × Int × Int)) (τ := ((List Int) × Int)) (fun s20 =>
cond ((decide (s20.2.2 < (lenI p_1)))) (Option.bind (idx p_1 s20.2.2) fun x26 =>
Option.bind (idx p_1 p_2) fun x30 =>
cond ((x26 != x30)) (some (.inl ((s20.1, s20.2.1, (w64 (s20.2.2 + 1)))))) (Option.bind (p_3 s20.2.2) fun y34 =>
cond (y34) (some (.inl ((s20.1, s20.2.1, (w64 (s20.2.2 + 1)))))) (cond ((s20.2.2 == p_2)) (Option.bind (appO 8 s20.1 ([s20.2.2])) fun x38 =>
some (.inl ((x38, (lenI s20.1), (w64 (s20.2.2 + 1)))))) (Option.bind (appO 8 s20.1 ([s20.2.2])) fun x41 =>
some (.inl ((x41, s20.2.1, (w64 (s20.2.2 + 1))))))))) (some (.inr (((s20.1, s20.2.1)))))) big (([], 0, 0))) fun t45 =>
Option.bind (idx p_1 p_2) fun x49 =>
Option.bind (idx p_0.1 x49) fun x50 =>
cond (x50.2.1) (Option.bind (slO3 t45.1 t45.2 t45.2) fun x52 =>
some x52) (Option.bind (slO t45.1 ((w64 (t45.2 + 1))) ((lenI t45.1))) fun x54 =>
Option.bind (g_slices_Clone_int_int x54) fun y55 =>
Option.bind (g_slices_Reverse_int_int y55) fun y58 =>
some y58)
def g_depot_night_least_1_1 (i_0 : Int) (p_1 : Int) : Option (Bool) :=
Option.bind (shrO .i64 p_1 i_0) fun x1 =>
some (((bAnd .i64 x1 1) == 1))
def g_depot_best_api_StablePlan (l_0 : (List StablePlan)) (better_1 : ((StablePlan × StablePlan) → Option (Bool))) : Option (StablePlan) :=
Option.bind (idx l_0 0) fun x3 =>
Option.bind (slO l_0 1 ((lenI l_0))) fun x6 =>
Option.bind (iter (σ := (Int × (List Int) × (List Int) × Int)) (τ := ((List Int) × (List Int) × Int)) (fun s19 =>
cond ((decide (s19.1 < (lenI x6)))) (Option.bind (idx x6 s19.1) fun x22 =>
Option.bind (better_1 ((x22, (s19.2.1, s19.2.2.1, s19.2.2.2, ())))) fun y25 =>
cond (y25) (some (.inl (((w64 (s19.1 + 1)), x22.1, x22.2.1, x22.2.2.1)))) (some (.inl (((w64 (s19.1 + 1)), s19.2.1, s19.2.2.1, s19.2.2.2))))) (some (.inr (((s19.2.1, s19.2.2.1, s19.2.2.2)))))) big ((0, x3.1, x3.2.1, x3.2.2.1))) fun t27 =>
some ((t27.1, t27.2.1, t27.2.2, ()))
def g_depot_Night_1 (a_0 : StablePlan) (b_1 : StablePlan) : Option (Bool) :=
some ((decide (a_0.2.2.1 < b_1.2.2.1)))
def g_slices_IndexFunc_api_WashJob_api_WashJob (s_0 : (List WashJob)) (f_1 : ((WashJob) → Option (Bool))) : Option (Int) :=
Option.bind (iter (σ := (Int)) (τ := Unit ⊕ (Int)) (fun s5 =>
cond ((decide (s5 < (lenI s_0)))) (Option.bind (idx s_0 s5) fun x8 =>
Option.bind (f_1 x8) fun y9 =>
cond (y9) (some (.inr ((.inr s5)))) (some (.inl ((w64 (s5 + 1)))))) (some (.inr ((.inl (())))))) big 0) fun t11 =>
alt (fun b13 => some ((-1))) (fun b14 => some b14) t11
def g_slices_ContainsFunc_api_WashJob_api_WashJob (s_0 : (List WashJob)) (f_1 : ((WashJob) → Option (Bool))) : Option (Bool) :=
Option.bind (g_slices_IndexFunc_api_WashJob_api_WashJob s_0 f_1) fun y1 =>
some ((decide (y1 ≥ 0)))
def g_depot_jobs_1 (j_0 : WashJob) : Option (Bool) :=
Option.bind (Option.bind (g_depot_within j_0.1 0 j_0.2.1) fun y6 =>
cond ((!y6)) (some true) (cond ((decide (j_0.2.1 > 200000))) (some true) (Option.bind (g_depot_within j_0.2.2.1 1 100000) fun y9 =>
some ((!y9))))) fun c5 =>
some c5
def g_depot_jobs (l_0 : (List WashJob)) : Option (Bool) :=
Option.bind (cond ((decide ((lenI l_0) ≤ 8))) (Option.bind (g_slices_ContainsFunc_api_WashJob_api_WashJob l_0 ((fun x => g_depot_jobs_1 x))) fun y5 =>
some ((!y5))) (some false)) fun c3 =>
some c3
def g_depot_orders_1_1_body {σ τ : Type} (step : σ → ((List Int)) → Option (σ ⊕ τ)) (rec : σ → (List Int) → Int → Option ((Bool) × (σ ⊕ τ))) (s_ : σ) (order_0 : (List Int)) (p_1 : Int) : Option ((Bool) × (σ ⊕ τ)) :=
cond (((lenI order_0) == p_1)) (Option.bind (step s_ order_0) fun y2 =>
some (((y2).isLeft, y2))) (Option.bind (iter (σ := (Int × (σ ⊕ τ))) (τ := ((σ ⊕ τ)) ⊕ ((Bool × (σ ⊕ τ)))) (fun s48 =>
cond ((decide (s48.1 < p_1))) (Option.bind (g_slices_Contains_int_int order_0 s48.1) fun y61 =>
cond ((!y61)) (Option.bind (g_slices_Clone_int_int order_0) fun y63 =>
Option.bind (appO 8 y63 ([s48.1])) fun x66 =>
Option.bind (goL s48.2) fun s68 =>
Option.bind (rec s68 x66 p_1) fun y69 =>
cond ((!y69.1)) (some (.inr ((.inr ((false, y69.2)))))) (some (.inl (((w64 (s48.1 + 1)), y69.2))))) (some (.inl (((w64 (s48.1 + 1)), s48.2))))) (some (.inr ((.inl s48.2))))) big ((0, (.inl s_)))) fun t73 =>
alt (fun b75 => some ((true, b75))) (fun b76 => some ((b76.1, b76.2))) t73)
def g_depot_orders_1_1 {σ τ : Type} (step : σ → ((List Int)) → Option (σ ⊕ τ)) : Nat → σ → (List Int) → Int → Option ((Bool) × (σ ⊕ τ))
  | 0 => fun _ _ _ => none
  | k + 1 => g_depot_orders_1_1_body step (g_depot_orders_1_1 step k)
def g_depot_orders_1 {σ τ : Type} (step : σ → ((List Int)) → Option (σ ⊕ τ)) (s_ : σ) (p_1 : Int) : Option ((σ ⊕ τ)) :=
Option.bind (g_depot_orders_1_1 step big s_ ([]) p_1) fun y3 =>
some y3.2
def g_depot_orders (n_0 : Int) : Option ((Int)) :=
some n_0
def g_depot_best_depot_wash (l_0 : (List depot_wash)) (better_1 : ((depot_wash × depot_wash) → Option (Bool))) : Option (depot_wash) :=
Option.bind (idx l_0 0) fun x3 =>
Option.bind (slO l_0 1 ((lenI l_0))) fun x6 =>
Option.bind (iter (σ := (Int × (List Int) × Int × Int)) (τ := ((List Int) × Int × Int)) (fun s19 =>
cond ((decide (s19.1 < (lenI x6)))) (Option.bind (idx x6 s19.1) fun x22 =>
Option.bind (better_1 ((x22, (s19.2.1, s19.2.2.1, s19.2.2.2, ())))) fun y25 =>
cond (y25) (some (.inl (((w64 (s19.1 + 1)), x22.1, x22.2.1, x22.2.2.1)))) (some (.inl (((w64 (s19.1 + 1)), s19.2.1, s19.2.2.1, s19.2.2.2))))) (some (.inr (((s19.2.1, s19.2.2.1, s19.2.2.2)))))) big ((0, x3.1, x3.2.1, x3.2.2.1))) fun t27 =>
some ((t27.1, t27.2.1, t27.2.2, ()))
def g_depot_washed (l_0 : (List WashJob)) (order_1 : (List Int)) : Option (depot_wash) :=
Option.bind (iter (σ := (Int × Int × Int)) (τ := (Int × Int)) (fun s15 =>
cond ((decide (s15.1 < (lenI order_1)))) (Option.bind (idx order_1 s15.1) fun x18 =>
Option.bind (idx l_0 x18) fun x19 =>
Option.bind (idx l_0 x18) fun x20 =>
Option.bind (idx l_0 x18) fun x21 =>
some (.inl (((w64 (s15.1 + 1)), (max s15.2.1 ((w64 ((w64 ((max s15.2.2 x19.1) + x20.2.2.1)) - x21.2.1)))), (w64 ((max s15.2.2 x19.1) + x20.2.2.1)))))) (some (.inr (((s15.2.1, s15.2.2)))))) big ((0, (((order_1, 0, 0, ()) : depot_wash)).2.1, (((order_1, 0, 0, ()) : depot_wash)).2.2.1))) fun t22 =>
some (((((order_1, 0, 0, ()) : depot_wash)).1, t22.1, t22.2, ()))
def g_depot_Wash_1 (a_0 : depot_wash) (b_1 : depot_wash) : Option (Bool) :=
Option.bind (cond ((decide (a_0.2.1 < b_1.2.1))) (some true) (cond ((a_0.2.1 == b_1.2.1)) (some ((decide (a_0.2.2.1 < b_1.2.2.1)))) (some false))) fun c3 =>
some c3
def g_depot_Wash (l_0 : (List WashJob)) : Option ((List Int) × Int × Int) :=
Option.bind (g_depot_jobs l_0) fun y1 =>
cond ((!y1)) (some (([], 0, 2))) (Option.bind (g_depot_orders ((lenI l_0))) fun y6 =>
Option.bind (g_depot_orders_1 (σ := ((List depot_wash))) (τ := Unit) (fun s24 x7 =>
Option.bind (g_depot_washed l_0 x7) fun y27 =>
Option.bind (appO 40 s24 ([y27])) fun x28 =>
Option.bind (g_depot_best_depot_wash x28 ((fun x => g_depot_Wash_1 x.1 x.2))) fun y30 =>
some (.inl ([y30]))) ([]) y6) fun t34 =>
Option.bind (goL t34) fun b36 =>
Option.bind (idx b36 0) fun x40 =>
Option.bind (idx b36 0) fun x41 =>
some ((x40.1, x41.2.1, 0)))
def g_depot_night_plan (p_0 : depot_night) (p_1 : StablePlan) : Option (Bool) :=
Option.bind (cond (((lenI p_1.1) != (lenI p_0.2.1))) (some true) (cond (((lenI p_1.2.1) != (lenI p_0.2.1))) (some true) (Option.bind (g_depot_permutation p_1.2.1) fun y9 =>
cond ((!y9)) (some true) (Option.bind (g_depot_night_quiet p_0) fun y11 =>
some ((!y11)))))) fun c6 =>
cond (c6) (some false) (Option.bind (iter (σ := (Int)) (τ := Unit ⊕ (Bool)) (fun s25 =>
cond ((decide (s25 < (lenI p_1.1)))) (Option.bind (idx p_1.1 s25) fun x28 =>
Option.bind (g_depot_within x28 0 ((w64 ((lenI p_0.1) - 1)))) fun y33 =>
cond ((!y33)) (some (.inr ((.inr false)))) (Option.bind (idx p_1.2.1 s25) fun x36 =>
Option.bind (g_depot_night_takes p_0 s25 x36) fun y37 =>
cond ((!y37)) (some (.inr ((.inr false)))) (some (.inl ((w64 (s25 + 1))))))) (some (.inr ((.inl (())))))) big 0) fun t39 =>
alt (fun b41 => Option.bind (g_depot_night_fit p_0 p_1.1) fun y44 =>
some y44) (fun b42 => some b42) t39)
def g_depot_Play_1   (kind_0 : Int) (car_1 : Int) (p_2 : (List StableMove)) (p_3 : StablePlan) : Option ((List StableMove)) :=
Option.bind (idx p_3.1 car_1) fun x1 =>
Option.bind (appO 24 p_2 ([((kind_0, car_1, x1, ()) : StableMove)])) fun x2 =>
some x2
def g_depot_night_leave_1_1 (i_0 : Int) (p_1 : (List Bool)) : Option (Bool) :=
Option.bind (idx p_1 i_0) fun x1 =>
some x1
def g_depot_night_leave_1 {σ τ : Type} (step : σ → (Int × (List Int)) → Option (σ ⊕ τ)) (s_ : σ) (p_1 : depot_night) (p_2 : StablePlan) : Option ((σ ⊕ τ)) :=
Option.bind (mkO 1 ((lenI p_1.2.1)) (false : Bool)) fun x1 =>
Option.bind (iter (σ := (Int × (List Bool) × (σ ⊕ τ))) (τ := ((List Bool) × (σ ⊕ τ)) ⊕ (((List Bool) × (σ ⊕ τ)))) (fun s28 =>
cond ((decide (s28.1 < (lenI p_1.2.2.1)))) (Option.bind (g_slices_Index_int_int p_2.2.1 s28.1) fun y35 =>
Option.bind (g_depot_night_aside p_1 p_2.1 y35 ((fun x => g_depot_night_leave_1_1 x s28.2.1))) fun y36 =>
Option.bind (goL s28.2.2) fun s39 =>
Option.bind (step s39 ((y35, y36))) fun y40 =>
cond ((!(y40).isLeft)) (some (.inr ((.inr ((s28.2.1, y40)))))) (Option.bind (idx s28.2.1 y35) fun x44 =>
some (.inl (((w64 (s28.1 + 1)), (s28.2.1).set (Int.toNat y35) true, y40))))) (some (.inr ((.inl ((s28.2.1, s28.2.2))))))) big ((0, x1, (.inl s_)))) fun t47 =>
alt (fun b49 => some b49.2) (fun b50 => some b50.2) t47
def g_depot_night_leave (n_0 : depot_night) (p_1 : StablePlan) : Option ((depot_night × StablePlan)) :=
some ((n_0, p_1))
def g_depot_Play (tracks_0 : (List StableTrack)) (cars_1 : (List StableCar)) (leaves_2 : (List StableLeave)) (p_3 : StablePlan) : Option ((List StableMove) × Int) :=
Option.bind (Option.bind (g_depot_night_valid (((tracks_0, cars_1, leaves_2, ()) : depot_night))) fun y6 =>
cond ((!y6)) (some true) (Option.bind (g_depot_night_plan (((tracks_0, cars_1, leaves_2, ()) : depot_night)) p_3) fun y8 =>
some ((!y8)))) fun c5 =>
cond (c5) (some (([], 2))) (Option.bind (iter (σ := (Int × (List StableMove))) (τ := ((List StableMove))) (fun s24 =>
cond ((decide (s24.1 < (lenI cars_1)))) (Option.bind (g_depot_Play_1 1 s24.1 s24.2 p_3) fun y30 =>
some (.inl (((w64 (s24.1 + 1)), y30)))) (some (.inr s24.2))) big ((0, []))) fun t34 =>
Option.bind (g_depot_night_leave (((tracks_0, cars_1, leaves_2, ()) : depot_night)) p_3) fun y38 =>
Option.bind (g_depot_night_leave_1 (σ := ((List StableMove))) (τ := Unit) (fun s98 x39 =>
Option.bind (iter (σ := (Int × (List StableMove))) (τ := ((List StableMove))) (fun s111 =>
cond ((decide (s111.1 < (lenI x39.2)))) (Option.bind (idx x39.2 s111.1) fun x117 =>
Option.bind (g_depot_Play_1 2 x117 s111.2 p_3) fun y118 =>
some (.inl (((w64 (s111.1 + 1)), y118)))) (some (.inr s111.2))) big ((0, s98))) fun t122 =>
Option.bind (g_depot_Play_1 3 x39.1 t122 p_3) fun y126 =>
some (.inl y126)) t34 y38.1 y38.2) fun t129 =>
Option.bind (goL t129) fun b131 =>
some ((b131, 0)))
def g_ref09_in (x_0 : Int) (low_1 : Int) (high_2 : Int) : Option (Bool) :=
Option.bind (cond ((decide (x_0 ≥ low_1))) (some ((decide (x_0 ≤ high_2)))) (some false)) fun c2 =>
some c2
def g_ref09_Order (l_0 : (List Int)) : Option (Bool) :=
Option.bind (mkO 1 ((lenI l_0)) (false : Bool)) fun x1 =>
Option.bind (iter (σ := (Int × (List Bool))) (τ := ((List Bool)) ⊕ (Bool × (List Bool))) (fun s34 =>
cond ((decide (s34.1 < (lenI l_0)))) (Option.bind (idx l_0 s34.1) fun x42 =>
Option.bind (g_ref09_in x42 0 ((w64 ((lenI l_0) - 1)))) fun y43 =>
cond ((!y43)) (some (.inr ((.inr ((false, s34.2)))))) (Option.bind (idx l_0 s34.1) fun x46 =>
Option.bind (idx s34.2 x46) fun x47 =>
cond (x47) (some (.inr ((.inr ((false, s34.2)))))) (Option.bind (idx l_0 s34.1) fun x49 =>
Option.bind (idx s34.2 x49) fun x50 =>
some (.inl (((w64 (s34.1 + 1)), (s34.2).set (Int.toNat x49) true)))))) (some (.inr ((.inl s34.2))))) big ((0, x1))) fun t51 =>
alt (fun b53 => some ((decide ((lenI l_0) ≤ 200)))) (fun b54 => some b54.1) t51
def g_ref09_InWay (l_0 : (List Int)) (through_1 : Bool) (i_2 : Int) (j_3 : Int) : Option (Bool) :=
cond (through_1) (Option.bind (idx l_0 j_3) fun x2 =>
Option.bind (idx l_0 i_2) fun x3 =>
some ((decide (x2 < x3)))) (Option.bind (idx l_0 i_2) fun x4 =>
Option.bind (idx l_0 j_3) fun x5 =>
some ((decide (x4 < x5))))
def g_ref09_Assign (l_0 : (List Int)) (through_1 : Bool) : Option ((List Int)) :=
Option.bind (mkO 8 ((lenI l_0)) (0 : Int)) fun x2 =>
Option.bind (iter (σ := (Int × (List Int))) (τ := ((List Int))) (fun s203 =>
cond ((decide (s203.1 < (lenI l_0)))) (Option.bind (iter (σ := (Bool × (List Int))) (τ := ((List Int))) (fun s268 =>
cond (s268.1) (Option.bind (iter (σ := (Bool × Int)) (τ := (Bool)) (fun s282 =>
cond ((decide (s282.2 < s203.1))) (cond (s282.1) (some (.inl ((true, (w64 (s282.2 + 1)))))) (Option.bind (idx s268.2 s282.2) fun x291 =>
Option.bind (idx s268.2 s203.1) fun x292 =>
cond ((x291 == x292)) (Option.bind (g_ref09_InWay l_0 through_1 s282.2 s203.1) fun y294 =>
some (.inl ((y294, (w64 (s282.2 + 1)))))) (some (.inl ((false, (w64 (s282.2 + 1)))))))) (some (.inr s282.1))) big ((false, 0))) fun t295 =>
cond (t295) (Option.bind (idx s268.2 s203.1) fun x299 =>
Option.bind (idx s268.2 s203.1) fun x300 =>
some (.inl ((t295, (s268.2).set (Int.toNat s203.1) ((w64 (x299 + 1))))))) (some (.inl ((t295, s268.2))))) (some (.inr s268.2))) big ((true, s203.2))) fun t301 =>
some (.inl (((w64 (s203.1 + 1)), t301)))) (some (.inr s203.2))) big ((0, x2))) fun t304 =>
some t304
def g_ref09_Proof (p_0 : (List Int)) (p_1 : Bool) : Option ((List Int)) :=
Option.bind (mkO 8 ((lenI p_0)) (0 : Int)) fun x2 =>
Option.bind (iter (σ := (Int × Int × (List Int))) (τ := (Int × (List Int))) (fun s57 =>
cond ((decide (s57.2.1 ≥ 0))) (Option.bind (idx s57.2.2 s57.2.1) fun x60 =>
Option.bind (iter (σ := (Int × (List Int))) (τ := ((List Int))) (fun s73 =>
cond ((decide (s73.1 < (lenI p_0)))) (Option.bind (g_ref09_InWay p_0 p_1 s57.2.1 s73.1) fun y76 =>
cond (y76) (Option.bind (idx s73.2 s57.2.1) fun x78 =>
Option.bind (idx s73.2 s73.1) fun x79 =>
Option.bind (idx s73.2 s57.2.1) fun x80 =>
some (.inl (((w64 (s73.1 + 1)), (s73.2).set (Int.toNat s57.2.1) ((max x78 ((w64 (1 + x79))))))))) (some (.inl (((w64 (s73.1 + 1)), s73.2))))) (some (.inr s73.2))) big (((w64 (s57.2.1 + 1)), (s57.2.2).set (Int.toNat s57.2.1) 1))) fun t81 =>
Option.bind (idx t81 s57.2.1) fun x84 =>
some (.inl (((max s57.1 x84), (w64 (s57.2.1 - 1)), t81)))) (some (.inr (((s57.1, s57.2.2)))))) big ((0, (w64 ((lenI p_0) - 1)), x2))) fun t85 =>
Option.bind (iter (σ := (Int × (List Int) × Int)) (τ := ((List Int))) (fun s109 =>
cond ((decide (s109.2.2 < (lenI p_0)))) (Option.bind (idx t85.2 s109.2.2) fun x120 =>
cond ((x120 == s109.1)) (cond (((lenI s109.2.1) == 0)) (Option.bind (appO 8 s109.2.1 ([s109.2.2])) fun x124 =>
some (.inl (((w64 (s109.1 - 1)), x124, (w64 (s109.2.2 + 1)))))) (Option.bind (idx s109.2.1 ((w64 ((lenI s109.2.1) - 1)))) fun x127 =>
Option.bind (g_ref09_InWay p_0 p_1 x127 s109.2.2) fun y128 =>
cond (y128) (Option.bind (appO 8 s109.2.1 ([s109.2.2])) fun x130 =>
some (.inl (((w64 (s109.1 - 1)), x130, (w64 (s109.2.2 + 1)))))) (some (.inl ((s109.1, s109.2.1, (w64 (s109.2.2 + 1)))))))) (some (.inl ((s109.1, s109.2.1, (w64 (s109.2.2 + 1))))))) (some (.inr s109.2.1))) big ((t85.1, [], 0))) fun t137 =>
some t137
def g_law09_DepotAssigns (order_0 : (List Int)) (through_1 : Bool) : Option (Bool) :=
Option.bind (cond ((decide ((lenI order_0) > 30))) (cond ((decide ((lenI order_0) ≤ 190))) (some true) (some ((decide ((lenI order_0) > 220))))) (some ((decide ((lenI order_0) > 220))))) fun c3 =>
cond (c3) (some true) (Option.bind (g_depot_Assign order_0 through_1) fun y7 =>
Option.bind (g_ref09_Order order_0) fun y12 =>
cond ((!y12)) (Option.bind (cond ((y7.2.2 == 2)) (cond (((w64 ((lenI y7.1) + (lenI y7.2.1))) == 0)) (some true) (some false)) (some false)) fun c16 =>
some c16) (cond ((y7.2.2 == 0)) (Option.bind (g_ref09_Assign order_0 through_1) fun y31 =>
Option.bind (g_ref09_Same y7.1 y31) fun y34 =>
cond (y34) (Option.bind (g_ref09_Proof order_0 through_1) fun y36 =>
Option.bind (g_ref09_Same y7.2.1 y36) fun y39 =>
cond (y39) (some true) (some false)) (some false)) (some false)))
def g_law09_few (t_0 : (List StableTrack)) (c_1 : (List StableCar)) (l_2 : (List StableLeave)) (most_3 : Int) : Option (Bool) :=
Option.bind (cond ((decide ((lenI t_0) ≤ 8))) (cond ((decide ((lenI c_1) ≤ 12))) (cond ((decide ((lenI l_2) ≤ 12))) (cond ((decide ((lenI c_1) ≤ most_3))) (some true) (some ((decide ((lenI c_1) > 9))))) (some false)) (some false)) (some false)) fun c5 =>
some c5
def g_ref09_Night (p_0 : (List StableTrack)) (p_1 : (List StableCar)) (p_2 : (List StableLeave)) : Option (Bool) :=
Option.bind (Option.bind (g_ref09_in ((lenI p_0)) 1 5) fun y5 =>
cond ((!y5)) (some true) (cond (((lenI p_1) != (lenI p_2))) (some true) (some ((decide ((lenI p_1) > 9)))))) fun c4 =>
cond (c4) (some false) (Option.bind (iter (σ := (Int)) (τ := Unit ⊕ (Bool)) (fun s13 =>
cond ((decide (s13 < (lenI p_0)))) (Option.bind (idx p_0 s13) fun x16 =>
Option.bind (g_ref09_in x16.1 0 10000000) fun y17 =>
cond ((!y17)) (some (.inr ((.inr false)))) (some (.inl ((w64 (s13 + 1)))))) (some (.inr ((.inl (())))))) big 0) fun t19 =>
alt (fun b21 => Option.bind (iter (σ := (Int)) (τ := Unit ⊕ (Bool)) (fun s81 =>
cond ((decide (s81 < (lenI p_1)))) (Option.bind (idx p_1 s81) fun x84 =>
Option.bind (idx p_2 s81) fun x85 =>
Option.bind (g_ref09_in x84.1 0 100) fun y100 =>
cond ((!y100)) (some (.inr ((.inr false)))) (Option.bind (g_ref09_in x84.2.1 1 10000000) fun y103 =>
cond ((!y103)) (some (.inr ((.inr false)))) (Option.bind (g_ref09_in x84.2.2.1 0 200000) fun y106 =>
cond ((!y106)) (some (.inr ((.inr false)))) (Option.bind (g_ref09_in x84.2.2.2.1 0 200000) fun y109 =>
cond ((!y109)) (some (.inr ((.inr false)))) (cond ((decide (s81 > 0))) (Option.bind (idx p_1 ((w64 (s81 - 1)))) fun x113 =>
cond ((decide (x84.2.2.1 < x113.2.2.1))) (some (.inr ((.inr false)))) (Option.bind (g_ref09_in x85.1 0 100) fun y120 =>
cond ((!y120)) (some (.inr ((.inr false)))) (Option.bind (g_ref09_in x85.2.1 0 200000) fun y123 =>
cond ((!y123)) (some (.inr ((.inr false)))) (Option.bind (idx p_2 ((w64 (s81 - 1)))) fun x126 =>
cond ((decide (x85.2.1 < x126.2.1))) (some (.inr ((.inr false)))) (some (.inl ((w64 (s81 + 1))))))))) (Option.bind (g_ref09_in x85.1 0 100) fun y133 =>
cond ((!y133)) (some (.inr ((.inr false)))) (Option.bind (g_ref09_in x85.2.1 0 200000) fun y136 =>
cond ((!y136)) (some (.inr ((.inr false)))) (some (.inl ((w64 (s81 + 1)))))))))))) (some (.inr ((.inl (())))))) big 0) fun t140 =>
alt (fun b142 => some true) (fun b143 => some b143) t140) (fun b22 => some b22) t19)
def g_law09_same (a_0 : StablePlan) (b_1 : StablePlan) : Option (Bool) :=
Option.bind (cond ((a_0.2.2.1 == b_1.2.2.1)) (Option.bind (g_ref09_Same a_0.1 b_1.1) fun y7 =>
cond (y7) (Option.bind (g_ref09_Same a_0.2.1 b_1.2.1) fun y9 =>
some y9) (some false)) (some false)) fun c5 =>
some c5
def g_ref09_Moves (p_0 : (List StableTrack)) (p_1 : (List StableCar)) (p_2 : (List StableLeave)) (p_3 : StablePlan) : Option (Int × Bool) :=
Option.bind (cond (((lenI p_3.1) != (lenI p_1))) (some true) (cond (((lenI p_3.2.1) != (lenI p_1))) (some true) (cond ((decide ((lenI p_1) > 0))) (Option.bind (idx p_1 ((w64 ((lenI p_1) - 1)))) fun x10 =>
Option.bind (idx p_2 0) fun x11 =>
some ((decide (x10.2.2.1 > x11.2.1)))) (some false)))) fun c6 =>
cond (c6) (some ((0, false))) (Option.bind (mkO 8 ((lenI p_0)) (0 : Int)) fun x13 =>
Option.bind (mkO 1 ((lenI p_1)) (false : Bool)) fun x16 =>
Option.bind (iter (σ := (Int × (List Bool) × (List Int))) (τ := ((List Bool) × (List Int)) ⊕ (Int × Bool × (List Bool) × (List Int))) (fun s117 =>
cond ((decide (s117.1 < (lenI p_1)))) (Option.bind (idx p_3.1 s117.1) fun x128 =>
Option.bind (g_ref09_in x128 0 ((w64 ((lenI p_0) - 1)))) fun y129 =>
cond ((!y129)) (some (.inr ((.inr ((0, false, s117.2.1, s117.2.2)))))) (Option.bind (idx p_3.2.1 s117.1) fun x132 =>
Option.bind (g_ref09_in x132 0 ((w64 ((lenI p_1) - 1)))) fun y133 =>
cond ((!y133)) (some (.inr ((.inr ((0, false, s117.2.1, s117.2.2)))))) (Option.bind (idx p_3.2.1 s117.1) fun x136 =>
Option.bind (idx s117.2.1 x136) fun x137 =>
cond (x137) (some (.inr ((.inr ((0, false, s117.2.1, s117.2.2)))))) (Option.bind (idx p_3.2.1 s117.1) fun x139 =>
Option.bind (idx s117.2.1 x139) fun x140 =>
Option.bind (idx p_3.2.1 s117.1) fun x141 =>
Option.bind (idx p_2 x141) fun x142 =>
Option.bind (idx p_1 s117.1) fun x150 =>
cond ((x142.1 != x150.1)) (some (.inr ((.inr ((0, false, (s117.2.1).set (Int.toNat x139) true, s117.2.2)))))) (Option.bind (idx p_1 s117.1) fun x153 =>
cond ((decide (x142.2.1 > x153.2.2.2.1))) (some (.inr ((.inr ((0, false, (s117.2.1).set (Int.toNat x139) true, s117.2.2)))))) (Option.bind (idx p_1 s117.1) fun x156 =>
cond ((decide (x142.2.1 < x156.2.2.1))) (some (.inr ((.inr ((0, false, (s117.2.1).set (Int.toNat x139) true, s117.2.2)))))) (Option.bind (idx p_3.1 s117.1) fun x158 =>
Option.bind (idx p_3.1 s117.1) fun x159 =>
Option.bind (idx s117.2.2 x159) fun x160 =>
Option.bind (idx p_1 s117.1) fun x161 =>
Option.bind (idx s117.2.2 x158) fun x162 =>
Option.bind (idx p_3.1 s117.1) fun x163 =>
Option.bind (idx ((s117.2.2).set (Int.toNat x158) ((w64 (x160 + x161.2.1)))) x163) fun x164 =>
Option.bind (idx p_3.1 s117.1) fun x165 =>
Option.bind (idx p_0 x165) fun x166 =>
cond ((decide (x164 > x166.1))) (some (.inr ((.inr ((0, false, (s117.2.1).set (Int.toNat x139) true, (s117.2.2).set (Int.toNat x158) ((w64 (x160 + x161.2.1))))))))) (some (.inl (((w64 (s117.1 + 1)), (s117.2.1).set (Int.toNat x139) true, (s117.2.2).set (Int.toNat x158) ((w64 (x160 + x161.2.1)))))))))))))) (some (.inr ((.inl ((s117.2.1, s117.2.2))))))) big ((0, x16, x13))) fun t168 =>
alt (fun b170 => Option.bind (iter (σ := (Int × Int)) (τ := (Int)) (fun s209 =>
cond ((decide (s209.2 < (lenI p_1)))) (Option.bind (iter (σ := (Int × Int)) (τ := (Int)) (fun s227 =>
cond ((decide (s227.2 < s209.2))) (Option.bind (idx p_3.1 s227.2) fun x236 =>
Option.bind (idx p_3.1 s209.2) fun x237 =>
cond ((x236 == x237)) (Option.bind (idx p_3.1 s227.2) fun x239 =>
Option.bind (idx p_0 x239) fun x240 =>
Option.bind (g_ref09_InWay p_3.2.1 x240.2.1 s227.2 s209.2) fun y241 =>
cond (y241) (some (.inl (((w64 (s227.1 + 1)), (w64 (s227.2 + 1)))))) (some (.inl ((s227.1, (w64 (s227.2 + 1))))))) (some (.inl ((s227.1, (w64 (s227.2 + 1))))))) (some (.inr s227.1))) big ((s209.1, 0))) fun t244 =>
some (.inl ((t244, (w64 (s209.2 + 1)))))) (some (.inr s209.1))) big ((0, 0))) fun t247 =>
some ((t247, true))) (fun b171 => some ((b171.1, b171.2.1))) t168)
def g_ref09_has (l_0 : (List Int)) (x_1 : Int) : Option (Bool) :=
Option.bind (iter (σ := (Int)) (τ := Unit ⊕ (Bool)) (fun s4 =>
cond ((decide (s4 < (lenI l_0)))) (Option.bind (idx l_0 s4) fun x7 =>
cond ((x7 == x_1)) (some (.inr ((.inr true)))) (some (.inl ((w64 (s4 + 1)))))) (some (.inr ((.inl (())))))) big 0) fun t9 =>
alt (fun b11 => some false) (fun b12 => some b12) t9
def g_ref09_lists (n_0 : Int) (bound_1 : Int) (different_2 : Bool) : Option ((List (List Int))) :=
Option.bind (iter (σ := ((List (List Int)) × Int)) (τ := ((List (List Int)))) (fun s153 =>
cond ((decide (s153.2 < n_0))) (Option.bind (iter (σ := ((List (List Int)) × Int)) (τ := ((List (List Int)))) (fun s228 =>
cond ((decide (s228.2 < (lenI s153.1)))) (Option.bind (iter (σ := ((List (List Int)) × Int)) (τ := ((List (List Int)))) (fun s261 =>
cond ((decide (s261.2 < bound_1))) (cond ((!different_2)) (Option.bind (idx s153.1 s228.2) fun x272 =>
Option.bind (appO 8 ([]) x272) fun x274 =>
Option.bind (appO 8 x274 ([s261.2])) fun x276 =>
Option.bind (appO 24 s261.1 ([x276])) fun x278 =>
some (.inl ((x278, (w64 (s261.2 + 1)))))) (Option.bind (idx s153.1 s228.2) fun x281 =>
Option.bind (g_ref09_has x281 s261.2) fun y282 =>
cond ((!y282)) (Option.bind (idx s153.1 s228.2) fun x284 =>
Option.bind (appO 8 ([]) x284) fun x286 =>
Option.bind (appO 8 x286 ([s261.2])) fun x288 =>
Option.bind (appO 24 s261.1 ([x288])) fun x290 =>
some (.inl ((x290, (w64 (s261.2 + 1)))))) (some (.inl ((s261.1, (w64 (s261.2 + 1)))))))) (some (.inr s261.1))) big ((s228.1, 0))) fun t295 =>
some (.inl ((t295, (w64 (s228.2 + 1)))))) (some (.inr s228.1))) big (([], 0))) fun t301 =>
some (.inl ((t301, (w64 (s153.2 + 1)))))) (some (.inr s153.1))) big (([[]], 0))) fun t307 =>
some t307
def g_ref09_Best (p_0 : (List StableTrack)) (p_1 : (List StableCar)) (p_2 : (List StableLeave)) : Option (StablePlan × Bool) :=
Option.bind (g_ref09_lists ((lenI p_1)) ((lenI p_0)) false) fun y3 =>
Option.bind (g_ref09_lists ((lenI p_1)) ((lenI p_1)) true) fun y6 =>
Option.bind (iter (σ := (Bool × Int × (List Int) × (List Int) × Int)) (τ := (Bool × (List Int) × (List Int) × Int)) (fun s101 =>
cond ((decide (s101.2.1 < (lenI y3)))) (Option.bind (iter (σ := (Bool × Int × (List Int) × (List Int) × Int)) (τ := (Bool × (List Int) × (List Int) × Int)) (fun s130 =>
cond ((decide (s130.2.1 < (lenI y6)))) (Option.bind (idx y3 s101.2.1) fun x133 =>
Option.bind (idx y6 s130.2.1) fun x134 =>
Option.bind (g_ref09_Moves p_0 p_1 p_2 (((x133, x134, 0, ()) : StablePlan))) fun y137 =>
cond (y137.2) (cond ((!s130.1)) (some (.inl ((true, (w64 (s130.2.1 + 1)), (((x133, x134, 0, ()) : StablePlan)).1, (((x133, x134, 0, ()) : StablePlan)).2.1, y137.1)))) (cond ((decide (y137.1 < s130.2.2.2.2))) (some (.inl ((true, (w64 (s130.2.1 + 1)), (((x133, x134, 0, ()) : StablePlan)).1, (((x133, x134, 0, ()) : StablePlan)).2.1, y137.1)))) (some (.inl ((s130.1, (w64 (s130.2.1 + 1)), s130.2.2.1, s130.2.2.2.1, s130.2.2.2.2)))))) (some (.inl ((s130.1, (w64 (s130.2.1 + 1)), s130.2.2.1, s130.2.2.2.1, s130.2.2.2.2))))) (some (.inr (((s130.1, s130.2.2.1, s130.2.2.2.1, s130.2.2.2.2)))))) big ((s101.1, 0, s101.2.2.1, s101.2.2.2.1, s101.2.2.2.2))) fun t145 =>
some (.inl ((t145.1, (w64 (s101.2.1 + 1)), t145.2.1, t145.2.2.1, t145.2.2.2)))) (some (.inr (((s101.1, s101.2.2.1, s101.2.2.2.1, s101.2.2.2.2)))))) big ((false, 0, [], [], 0))) fun t148 =>
some (((t148.2.1, t148.2.2.1, t148.2.2.2, ()), t148.1))
def g_ref09_Jobs (l_0 : (List WashJob)) : Option (Bool) :=
Option.bind (iter (σ := (Int)) (τ := Unit ⊕ (Bool)) (fun s24 =>
cond ((decide (s24 < (lenI l_0)))) (Option.bind (idx l_0 s24) fun x36 =>
cond ((decide (x36.1 < 0))) (some (.inr ((.inr false)))) (Option.bind (idx l_0 s24) fun x39 =>
Option.bind (idx l_0 s24) fun x40 =>
cond ((decide (x39.1 > x40.2.1))) (some (.inr ((.inr false)))) (Option.bind (idx l_0 s24) fun x43 =>
cond ((decide (x43.2.1 > 200000))) (some (.inr ((.inr false)))) (Option.bind (idx l_0 s24) fun x46 =>
Option.bind (g_ref09_in x46.2.2.1 1 100000) fun y47 =>
cond ((!y47)) (some (.inr ((.inr false)))) (some (.inl ((w64 (s24 + 1))))))))) (some (.inr ((.inl (())))))) big 0) fun t49 =>
alt (fun b51 => some ((decide ((lenI l_0) ≤ 8)))) (fun b52 => some b52) t49
def g_ref09_Late (l_0 : (List WashJob)) (order_1 : (List Int)) : Option (Int × Int) :=
Option.bind (iter (σ := (Int × Int × Int)) (τ := (Int × Int)) (fun s6 =>
cond ((decide (s6.2.2 < (lenI order_1)))) (Option.bind (idx order_1 s6.2.2) fun x9 =>
Option.bind (idx l_0 x9) fun x10 =>
some (.inl (((max s6.1 ((w64 ((w64 ((max s6.2.1 x10.1) + x10.2.2.1)) - x10.2.1)))), (w64 ((max s6.2.1 x10.1) + x10.2.2.1)), (w64 (s6.2.2 + 1)))))) (some (.inr (((s6.1, s6.2.1)))))) big ((0, 0, 0))) fun t13 =>
some ((t13.1, t13.2))
def g_ref09_Wash (p_0 : (List WashJob)) : Option ((List Int) × Int) :=
Option.bind (g_ref09_lists ((lenI p_0)) ((lenI p_0)) true) fun y1 =>
Option.bind (idx y1 0) fun x4 =>
Option.bind (iter (σ := ((List Int) × Int)) (τ := ((List Int))) (fun s18 =>
cond ((decide (s18.2 < (lenI y1)))) (Option.bind (g_ref09_Late p_0 s18.1) fun y21 =>
Option.bind (idx y1 s18.2) fun x22 =>
Option.bind (g_ref09_Late p_0 x22) fun y23 =>
cond ((decide (y23.1 < y21.1))) (Option.bind (idx y1 s18.2) fun x28 =>
some (.inl ((x28, (w64 (s18.2 + 1)))))) (cond ((y23.1 == y21.1)) (cond ((decide (y23.2 < y21.2))) (Option.bind (idx y1 s18.2) fun x31 =>
some (.inl ((x31, (w64 (s18.2 + 1)))))) (some (.inl ((s18.1, (w64 (s18.2 + 1))))))) (some (.inl ((s18.1, (w64 (s18.2 + 1)))))))) (some (.inr s18.1))) big ((x4, 1))) fun t33 =>
Option.bind (g_ref09_Late p_0 t33) fun y36 =>
some ((t33, y36.1))
def g_law09_DepotWashes (p_0 : (List WashJob)) : Option (Bool) :=
Option.bind (cond ((decide ((lenI p_0) > 5))) (cond ((decide ((lenI p_0) ≤ 8))) (some true) (some ((decide ((lenI p_0) > 12))))) (some ((decide ((lenI p_0) > 12))))) fun c3 =>
cond (c3) (some true) (Option.bind (g_depot_Wash p_0) fun y7 =>
Option.bind (g_ref09_Jobs p_0) fun y8 =>
cond ((!y8)) (Option.bind (cond ((y7.2.2 == 2)) (cond (((lenI y7.1) == 0)) (cond ((y7.2.1 == 0)) (some true) (some false)) (some false)) (some false)) fun c13 =>
some c13) (Option.bind (g_ref09_Wash p_0) fun y17 =>
Option.bind (cond ((y7.2.2 == 0)) (Option.bind (g_ref09_Same y7.1 y17.1) fun y24 =>
cond (y24) (cond ((y7.2.1 == y17.2)) (some true) (some false)) (some false)) (some false)) fun c22 =>
some c22))
def g_depot_Late (l_0 : (List WashJob)) (order_1 : (List Int)) : Option (Int × Int × Int) :=
Option.bind (Option.bind (g_depot_jobs l_0) fun y6 =>
cond ((!y6)) (some true) (cond (((lenI order_1) != (lenI l_0))) (some true) (Option.bind (g_depot_permutation order_1) fun y9 =>
some ((!y9))))) fun c5 =>
cond (c5) (some ((0, 0, 2))) (Option.bind (g_depot_washed l_0 order_1) fun y11 =>
some ((y11.2.1, y11.2.2.1, 0)))
def g_law09_DepotLate (p_0 : (List WashJob)) (p_1 : (List Int)) : Option (Bool) :=
Option.bind (cond ((decide ((lenI p_0) > 12))) (some true) (some ((decide ((lenI p_1) > 12))))) fun c2 =>
cond (c2) (some true) (Option.bind (g_depot_Late p_0 p_1) fun y5 =>
Option.bind (Option.bind (g_ref09_Jobs p_0) fun y11 =>
cond ((!y11)) (some true) (cond (((lenI p_1) != (lenI p_0))) (some true) (Option.bind (g_ref09_Order p_1) fun y14 =>
some ((!y14))))) fun c10 =>
cond (c10) (Option.bind (cond ((y5.2.2 == 2)) (cond ((y5.1 == 0)) (cond ((y5.2.1 == 0)) (some true) (some false)) (some false)) (some false)) fun c19 =>
some c19) (Option.bind (g_ref09_Late p_0 p_1) fun y23 =>
Option.bind (cond ((y5.2.2 != 0)) (some true) (cond ((y5.1 != y23.1)) (some true) (some ((y5.2.1 != y23.2))))) fun c26 =>
cond (c26) (some false) (Option.bind (g_depot_Wash p_0) fun y30 =>
Option.bind (g_depot_Late p_0 y30.1) fun y31 =>
Option.bind (cond ((y30.2.2 == 0)) (cond ((y31.2.2 == 0)) (cond ((y31.1 == y30.2.1)) (cond ((decide (y30.2.1 < y5.1))) (some true) (cond ((y30.2.1 == y5.1)) (cond ((decide (y31.2.1 ≤ y5.2.1))) (some true) (some false)) (some false))) (some false)) (some false)) (some false)) fun c38 =>
some c38)))
def g_depot_Proves_1 (i_0 : Int) (p_1 : ((Int × Int) → Option (Bool))) (p_2 : Int) : Option (Bool) :=
Option.bind (p_1 ((i_0, p_2))) fun y1 =>
some ((!y1))
def g_depot_Proves (p_0 : (List Int)) (p_1 : Bool) (p_2 : Int) (p_3 : (List Int)) : Option (Bool) :=
Option.bind (cond ((decide ((lenI p_0) > 200))) (some true) (Option.bind (g_depot_permutation p_0) fun y7 =>
cond ((!y7)) (some true) (cond ((decide (p_2 < 0))) (some true) (some ((decide ((lenI p_3) < p_2))))))) fun c5 =>
cond (c5) (some false) (Option.bind (g_depot_leaving_way p_0 p_1) fun y11 =>
Option.bind (iter (σ := (Int)) (τ := Unit ⊕ (Bool)) (fun s40 =>
cond ((decide (s40 < (lenI p_3)))) (Option.bind (idx p_3 s40) fun x43 =>
Option.bind (g_depot_within x43 0 ((w64 ((lenI p_0) - 1)))) fun y55 =>
cond ((!y55)) (some (.inr ((.inr false)))) (cond ((decide (s40 > 0))) (Option.bind (idx p_3 ((w64 (s40 - 1)))) fun x59 =>
cond ((decide (x43 ≤ x59))) (some (.inr ((.inr false)))) (Option.bind (slO p_3 0 s40) fun x62 =>
Option.bind (g_slices_ContainsFunc_int_int x62 ((fun x => g_depot_Proves_1 x y11 x43))) fun y63 =>
cond (y63) (some (.inr ((.inr false)))) (some (.inl ((w64 (s40 + 1))))))) (Option.bind (slO p_3 0 s40) fun x65 =>
Option.bind (g_slices_ContainsFunc_int_int x65 ((fun x => g_depot_Proves_1 x y11 x43))) fun y66 =>
cond (y66) (some (.inr ((.inr false)))) (some (.inl ((w64 (s40 + 1)))))))) (some (.inr ((.inl (())))))) big 0) fun t68 =>
alt (fun b70 => some true) (fun b71 => some b71) t68)
def g_ref09_Proves (p_0 : (List Int)) (p_1 : Bool) (p_2 : Int) (p_3 : (List Int)) : Option (Bool) :=
Option.bind (Option.bind (g_ref09_Order p_0) fun y5 =>
cond ((!y5)) (some true) (cond ((decide (p_2 < 0))) (some true) (some ((decide ((lenI p_3) < p_2)))))) fun c4 =>
cond (c4) (some false) (Option.bind (iter (σ := (Int)) (τ := Unit ⊕ (Bool)) (fun s61 =>
cond ((decide (s61 < (lenI p_3)))) (Option.bind (idx p_3 s61) fun x70 =>
Option.bind (g_ref09_in x70 0 ((w64 ((lenI p_0) - 1)))) fun y71 =>
cond ((!y71)) (some (.inr ((.inr false)))) (cond ((decide (s61 > 0))) (Option.bind (idx p_3 s61) fun x75 =>
Option.bind (idx p_3 ((w64 (s61 - 1)))) fun x76 =>
cond ((decide (x75 ≤ x76))) (some (.inr ((.inr false)))) (Option.bind (iter (σ := (Int)) (τ := Unit ⊕ (Bool)) (fun s83 =>
cond ((decide (s83 < s61))) (Option.bind (idx p_3 s83) fun x86 =>
Option.bind (idx p_3 s61) fun x87 =>
Option.bind (g_ref09_InWay p_0 p_1 x86 x87) fun y88 =>
cond ((!y88)) (some (.inr ((.inr false)))) (some (.inl ((w64 (s83 + 1)))))) (some (.inr ((.inl (())))))) big 0) fun t90 =>
alt (fun b92 => some (.inl ((w64 (s61 + 1))))) (fun b93 => some (.inr ((.inr b93)))) t90)) (Option.bind (iter (σ := (Int)) (τ := Unit ⊕ (Bool)) (fun s102 =>
cond ((decide (s102 < s61))) (Option.bind (idx p_3 s102) fun x105 =>
Option.bind (idx p_3 s61) fun x106 =>
Option.bind (g_ref09_InWay p_0 p_1 x105 x106) fun y107 =>
cond ((!y107)) (some (.inr ((.inr false)))) (some (.inl ((w64 (s102 + 1)))))) (some (.inr ((.inl (())))))) big 0) fun t109 =>
alt (fun b111 => some (.inl ((w64 (s61 + 1))))) (fun b112 => some (.inr ((.inr b112)))) t109))) (some (.inr ((.inl (())))))) big 0) fun t115 =>
alt (fun b117 => some true) (fun b118 => some b118) t115)
def g_law09_DepotProves (order_0 : (List Int)) (through_1 : Bool) (tracks_2 : Int) (proof_3 : (List Int)) : Option (Bool) :=
Option.bind (cond ((decide ((lenI order_0) > 40))) (some true) (some ((decide ((lenI proof_3) > 40))))) fun c2 =>
cond (c2) (some true) (Option.bind (Option.bind (g_depot_Proves order_0 through_1 tracks_2 proof_3) fun y9 =>
Option.bind (g_ref09_Proves order_0 through_1 tracks_2 proof_3) fun y10 =>
cond ((y9 == y10)) (some true) (some false)) fun c8 =>
some c8)
def g_law09_used (order_0 : (List Int)) (through_1 : Bool) (tracks_2 : (List Int)) : Option (Int × Bool) :=
cond (((lenI tracks_2) != (lenI order_0))) (some ((0, false))) (Option.bind (iter (σ := (Int × Int)) (τ := (Int) ⊕ (Int × Bool)) (fun s24 =>
cond ((decide (s24.2 < (lenI order_0)))) (Option.bind (iter (σ := (Bool × Int)) (τ := (Bool) ⊕ (Int × Bool)) (fun s33 =>
cond ((decide (s33.2 < s24.2))) (Option.bind (idx tracks_2 s33.2) fun x36 =>
Option.bind (idx tracks_2 s24.2) fun x37 =>
cond ((x36 == x37)) (Option.bind (g_ref09_InWay order_0 through_1 s33.2 s24.2) fun y39 =>
cond (y39) (some (.inr ((.inr ((0, false)))))) (some (.inl ((false, (w64 (s33.2 + 1))))))) (some (.inl ((s33.1, (w64 (s33.2 + 1))))))) (some (.inr ((.inl s33.1))))) big ((true, 0))) fun t41 =>
alt (fun b43 => cond (b43) (some (.inl (((w64 (s24.1 + 1)), (w64 (s24.2 + 1)))))) (some (.inl ((s24.1, (w64 (s24.2 + 1))))))) (fun b44 => some (.inr ((.inr ((b44.1, b44.2)))))) t41) (some (.inr ((.inl s24.1))))) big ((0, 0))) fun t48 =>
alt (fun b50 => some ((b50, true))) (fun b51 => some ((b51.1, b51.2))) t48)
def g_law09_DepotFewest (p_0 : (List Int)) (p_1 : Bool) (p_2 : (List Int)) (p_3 : Int) (p_4 : (List Int)) : Option (Bool) :=
Option.bind (cond ((decide ((lenI p_0) > 40))) (some true) (Option.bind (g_ref09_Order p_0) fun y7 =>
cond ((!y7)) (some true) (cond ((decide ((lenI p_2) > 40))) (some true) (some ((decide ((lenI p_4) > 40))))))) fun c5 =>
cond (c5) (some true) (Option.bind (g_depot_Assign p_0 p_1) fun y11 =>
cond ((y11.2.2 != 0)) (some false) (Option.bind (g_law09_used p_0 p_1 y11.1) fun y17 =>
Option.bind (cond ((!y17.2)) (some true) (Option.bind (g_depot_Proves p_0 p_1 y17.1 y11.2.1) fun y24 =>
cond ((!y24)) (some true) (Option.bind (g_ref09_Proves p_0 p_1 y17.1 y11.2.1) fun y26 =>
some ((!y26))))) fun c22 =>
cond (c22) (some false) (Option.bind (g_law09_used p_0 p_1 p_2) fun y28 =>
Option.bind (cond (y28.2) (some ((decide (y28.1 < y17.1)))) (some false)) fun c30 =>
cond (c30) (some false) (Option.bind (Option.bind (g_depot_Proves p_0 p_1 p_3 p_4) fun y36 =>
cond (y36) (some ((decide (p_3 > y17.1)))) (some false)) fun c35 =>
cond (c35) (some false) (Option.bind (iter (σ := ((List Int) × Int)) (τ := ((List Int))) (fun s46 =>
cond ((decide (s46.2 ≥ 0))) (Option.bind (idx p_0 s46.2) fun x52 =>
Option.bind (appO 8 s46.1 ([x52])) fun x53 =>
some (.inl ((x53, (w64 (s46.2 - 1)))))) (some (.inr s46.1))) big (([], (w64 ((lenI p_0) - 1))))) fun t57 =>
Option.bind (g_depot_Assign t57 ((!p_1))) fun y61 =>
Option.bind (g_law09_used t57 ((!p_1)) y61.1) fun y66 =>
Option.bind (cond ((y61.2.2 == 0)) (cond (y66.2) (cond ((y66.1 == y17.1)) (some true) (some false)) (some false)) (some false)) fun c70 =>
some c70)))))
def g_depot_night_moves (n_0 : depot_night) (p_1 : StablePlan) : Option (Int) :=
Option.bind (g_depot_night_leave n_0 p_1) fun y3 =>
Option.bind (g_depot_night_leave_1 (σ := (Int)) (τ := Unit) (fun s5 x4 =>
some (.inl ((w64 (s5 + (lenI x4.2)))))) 0 y3.1 y3.2) fun t7 =>
Option.bind (goL t7) fun b9 =>
some b9
def g_depot_Moves (tracks_0 : (List StableTrack)) (cars_1 : (List StableCar)) (leaves_2 : (List StableLeave)) (p_3 : StablePlan) : Option (Int × Bool) :=
Option.bind (Option.bind (g_depot_night_valid (((tracks_0, cars_1, leaves_2, ()) : depot_night))) fun y5 =>
cond ((!y5)) (some true) (Option.bind (g_depot_night_plan (((tracks_0, cars_1, leaves_2, ()) : depot_night)) p_3) fun y7 =>
some ((!y7)))) fun c4 =>
cond (c4) (some ((0, false))) (Option.bind (g_depot_night_moves (((tracks_0, cars_1, leaves_2, ()) : depot_night)) p_3) fun y9 =>
some ((y9, true)))
def g_ref09_Play (p_0 : (List StableTrack)) (p_1 : (List StableCar)) (p_2 : StablePlan) : Option ((List StableMove)) :=
Option.bind (iter (σ := ((List StableMove) × Int)) (τ := ((List StableMove))) (fun s9 =>
cond ((decide (s9.2 < (lenI p_1)))) (Option.bind (idx p_2.1 s9.2) fun x15 =>
Option.bind (appO 24 s9.1 ([((1, s9.2, x15, ()) : StableMove)])) fun x16 =>
some (.inl ((x16, (w64 (s9.2 + 1)))))) (some (.inr s9.1))) big (([], 0))) fun t20 =>
Option.bind (mkO 1 ((lenI p_1)) (false : Bool)) fun x24 =>
Option.bind (iter (σ := ((List StableMove) × Int × (List Bool))) (τ := ((List StableMove) × (List Bool))) (fun s216 =>
cond ((decide (s216.2.1 < (lenI p_1)))) (Option.bind (iter (σ := (Int)) (τ := (Int)) (fun s224 =>
Option.bind (idx p_2.2.1 s224) fun x226 =>
cond ((x226 != s216.2.1)) (some (.inl ((w64 (s224 + 1))))) (some (.inr s224))) big 0) fun t228 =>
Option.bind (idx p_2.1 t228) fun x231 =>
Option.bind (idx p_0 x231) fun x232 =>
cond (x232.2.1) (Option.bind (iter (σ := ((List StableMove) × Int)) (τ := ((List StableMove))) (fun s247 =>
cond ((decide (s247.2 < t228))) (Option.bind (idx p_2.1 s247.2) fun x256 =>
cond ((x256 == x231)) (Option.bind (idx s216.2.2 s247.2) fun x258 =>
cond ((!x258)) (Option.bind (appO 24 s247.1 ([((2, s247.2, x231, ()) : StableMove)])) fun x260 =>
some (.inl ((x260, (w64 (s247.2 + 1)))))) (some (.inl ((s247.1, (w64 (s247.2 + 1))))))) (some (.inl ((s247.1, (w64 (s247.2 + 1))))))) (some (.inr s247.1))) big ((s216.1, 0))) fun t267 =>
Option.bind (appO 24 t267 ([((3, t228, x231, ()) : StableMove)])) fun x271 =>
Option.bind (idx s216.2.2 t228) fun x273 =>
some (.inl ((x271, (w64 (s216.2.1 + 1)), (s216.2.2).set (Int.toNat t228) true)))) (Option.bind (iter (σ := ((List StableMove) × Int)) (τ := ((List StableMove))) (fun s288 =>
cond ((decide (s288.2 > t228))) (Option.bind (idx p_2.1 s288.2) fun x297 =>
cond ((x297 == x231)) (Option.bind (idx s216.2.2 s288.2) fun x299 =>
cond ((!x299)) (Option.bind (appO 24 s288.1 ([((2, s288.2, x231, ()) : StableMove)])) fun x301 =>
some (.inl ((x301, (w64 (s288.2 - 1)))))) (some (.inl ((s288.1, (w64 (s288.2 - 1))))))) (some (.inl ((s288.1, (w64 (s288.2 - 1))))))) (some (.inr s288.1))) big ((s216.1, (w64 ((lenI p_1) - 1))))) fun t308 =>
Option.bind (appO 24 t308 ([((3, t228, x231, ()) : StableMove)])) fun x312 =>
Option.bind (idx s216.2.2 t228) fun x314 =>
some (.inl ((x312, (w64 (s216.2.1 + 1)), (s216.2.2).set (Int.toNat t228) true))))) (some (.inr (((s216.1, s216.2.2)))))) big ((t20, 0, x24))) fun t317 =>
some t317.1
def g_law09_DepotMoves (p_0 : (List StableTrack)) (p_1 : (List StableCar)) (p_2 : (List StableLeave)) (p_3 : StablePlan) : Option (Bool) :=
Option.bind (Option.bind (g_law09_few p_0 p_1 p_2 9) fun y5 =>
cond ((!y5)) (some true) (cond ((decide ((lenI p_3.1) > 12))) (some true) (some ((decide ((lenI p_3.2.1) > 12)))))) fun c4 =>
cond (c4) (some true) (Option.bind (g_depot_Moves p_0 p_1 p_2 p_3) fun y9 =>
Option.bind (g_depot_Play p_0 p_1 p_2 p_3) fun y10 =>
Option.bind (g_ref09_Night p_0 p_1 p_2) fun y13 =>
cond ((!y13)) (Option.bind (cond ((!y9.2)) (cond ((y9.1 == 0)) (cond ((y10.2 == 2)) (cond (((lenI y10.1) == 0)) (some true) (some false)) (some false)) (some false)) (some false)) fun c19 =>
some c19) (Option.bind (g_ref09_Moves p_0 p_1 p_2 p_3) fun y24 =>
Option.bind (cond ((y9.2 != y24.2)) (some true) (some ((y9.1 != y24.1)))) fun c26 =>
cond (c26) (some false) (cond ((!y24.2)) (Option.bind (cond ((y10.2 == 2)) (cond (((lenI y10.1) == 0)) (some true) (some false)) (some false)) fun c32 =>
some c32) (Option.bind (g_ref09_Play p_0 p_1 p_3) fun y35 =>
Option.bind (cond ((y10.2 != 0)) (some true) (some (((lenI y10.1) != (lenI y35))))) fun c39 =>
cond (c39) (some false) (Option.bind (iter (σ := (Int)) (τ := Unit ⊕ (Bool)) (fun s46 =>
cond ((decide (s46 < (lenI y10.1)))) (Option.bind (idx y10.1 s46) fun x49 =>
Option.bind (idx y35 s46) fun x50 =>
cond ((x49 != x50)) (some (.inr ((.inr false)))) (some (.inl ((w64 (s46 + 1)))))) (some (.inr ((.inl (())))))) big 0) fun t52 =>
alt (fun b54 => some true) (fun b55 => some b55) t52)))))
def g_law09_played (p_0 : (List StableCar)) (p_1 : (List StableLeave)) (p_2 : StablePlan) (p_3 : (List StableMove)) : Option (Bool) :=
Option.bind (cond (((lenI p_3) != (w64 ((w64 (2 * (lenI p_0))) + p_2.2.2.1)))) (some true) (cond (((lenI p_2.2.1) != (lenI p_0))) (some true) (some (((lenI p_2.1) != (lenI p_0)))))) fun c3 =>
cond (c3) (some false) (Option.bind (iter (σ := (Int × Int × Int)) (τ := (Int × Int) ⊕ (Bool)) (fun s46 =>
cond ((decide (s46.2.2 < (lenI p_3)))) (Option.bind (idx p_3 s46.2.2) fun x49 =>
cond ((decide (x49.2.1 < 0))) (some (.inr ((.inr false)))) (cond ((decide (x49.2.1 ≥ (lenI p_0)))) (some (.inr ((.inr false)))) (Option.bind (idx p_2.1 x49.2.1) fun x59 =>
cond ((x49.2.2.1 != x59)) (some (.inr ((.inr false)))) (cond ((x49.1 == 1)) (cond ((x49.2.1 != s46.1)) (some (.inr ((.inr false)))) (cond ((decide (s46.2.1 > 0))) (some (.inr ((.inr false)))) (some (.inl (((w64 (s46.1 + 1)), s46.2.1, (w64 (s46.2.2 + 1)))))))) (cond ((x49.1 == 3)) (Option.bind (idx p_2.2.1 x49.2.1) fun x74 =>
cond ((x74 != s46.2.1)) (some (.inr ((.inr false)))) (Option.bind (idx p_1 s46.2.1) fun x77 =>
Option.bind (idx p_0 x49.2.1) fun x78 =>
cond ((x77.1 != x78.1)) (some (.inr ((.inr false)))) (Option.bind (idx p_0 x49.2.1) fun x81 =>
Option.bind (idx p_1 s46.2.1) fun x82 =>
cond ((decide (x81.2.2.1 > x82.2.1))) (some (.inr ((.inr false)))) (some (.inl ((s46.1, (w64 (s46.2.1 + 1)), (w64 (s46.2.2 + 1))))))))) (cond ((x49.1 == 2)) (Option.bind (idx p_2.2.1 x49.2.1) fun x85 =>
cond ((decide (x85 ≤ s46.2.1))) (some (.inr ((.inr false)))) (some (.inl ((s46.1, s46.2.1, (w64 (s46.2.2 + 1))))))) (some (.inl ((s46.1, s46.2.1, (w64 (s46.2.2 + 1)))))))))))) (some (.inr ((.inl ((s46.1, s46.2.1))))))) big ((0, 0, 0))) fun t87 =>
alt (fun b89 => Option.bind (cond ((b89.1 == (lenI p_0))) (some ((b89.2 == (lenI p_0)))) (some false)) fun c93 =>
some c93) (fun b90 => some b90) t87)
end Go.Ai.Sx

/- Written by program: the facts of the tables, and the walks through the functions. -/
namespace Go.Ai.TabYtpiblfbidgcjaaa
open Go Go.Ai Go.Ai.Sx Go.Proofs
attribute [local irreducible] SOps
noncomputable def fl35 : Array Field := match Try.t35.desc with | .struct fs => fs | _ => #[]
noncomputable def fl70 : Array Field := match Try.t70.desc with | .struct fs => fs | _ => #[]
noncomputable def fl88 : Array Field := match Try.t88.desc with | .struct fs => fs | _ => #[]
noncomputable def fl101 : Array Field := match Try.t101.desc with | .struct fs => fs | _ => #[]
noncomputable def fl43 : Array Field := match Try.t43.desc with | .struct fs => fs | _ => #[]
noncomputable def fl45 : Array Field := match Try.t45.desc with | .struct fs => fs | _ => #[]
noncomputable def fl47 : Array Field := match Try.t47.desc with | .struct fs => fs | _ => #[]
noncomputable def fl75 : Array Field := match Try.t75.desc with | .struct fs => fs | _ => #[]
noncomputable def fi35_0 : Field := fl35[0]!
noncomputable def fi35_1 : Field := fl35[1]!
noncomputable def fi35_2 : Field := fl35[2]!
noncomputable def fi43_0 : Field := fl43[0]!
noncomputable def fi43_1 : Field := fl43[1]!
noncomputable def fi43_2 : Field := fl43[2]!
noncomputable def fi43_3 : Field := fl43[3]!
noncomputable def fi45_0 : Field := fl45[0]!
noncomputable def fi45_1 : Field := fl45[1]!
noncomputable def fi47_0 : Field := fl47[0]!
noncomputable def fi47_1 : Field := fl47[1]!
noncomputable def fi70_0 : Field := fl70[0]!
noncomputable def fi70_1 : Field := fl70[1]!
noncomputable def fi70_2 : Field := fl70[2]!
noncomputable def fi75_0 : Field := fl75[0]!
noncomputable def fi75_1 : Field := fl75[1]!
noncomputable def fi75_2 : Field := fl75[2]!
noncomputable def fi88_0 : Field := fl88[0]!
noncomputable def fi88_1 : Field := fl88[1]!
noncomputable def fi88_2 : Field := fl88[2]!
noncomputable def fi101_0 : Field := fl101[0]!
noncomputable def fi101_1 : Field := fl101[1]!
noncomputable def fi101_2 : Field := fl101[2]!
theorem K4 : ktab.und 4 = some .bool := by kernel_rfl
theorem U102 : Und ktab 102 rdepot_wash := ⟨by kernel_rfl, by kernel_rfl⟩
theorem U22 : Und ktab 22 (rSlice (rInt .i64)) := ⟨by kernel_rfl, by kernel_rfl⟩
theorem U3 : Und ktab 3 (rInt .i64) := ⟨by kernel_rfl, by kernel_rfl⟩
theorem U31 : Und ktab 31 (rSlice rStableTrack) := ⟨by kernel_rfl, by kernel_rfl⟩
theorem U32 : Und ktab 32 (rSlice rStableCar) := ⟨by kernel_rfl, by kernel_rfl⟩
theorem U33 : Und ktab 33 (rSlice rStableLeave) := ⟨by kernel_rfl, by kernel_rfl⟩
theorem U36 : Und ktab 36 rStablePlan := ⟨by kernel_rfl, by kernel_rfl⟩
theorem U4 : Und ktab 4 rBool := ⟨by kernel_rfl, by kernel_rfl⟩
theorem U44 : Und ktab 44 rStableCar := ⟨by kernel_rfl, by kernel_rfl⟩
theorem U46 : Und ktab 46 rStableLeave := ⟨by kernel_rfl, by kernel_rfl⟩
theorem U48 : Und ktab 48 rStableTrack := ⟨by kernel_rfl, by kernel_rfl⟩
theorem U49 : Und ktab 49 (rSlice rWashJob) := ⟨by kernel_rfl, by kernel_rfl⟩
theorem U65 : Und ktab 65 (rSlice rStableMove) := ⟨by kernel_rfl, by kernel_rfl⟩
theorem U69 : Und ktab 69 (rInt .i64) := ⟨by kernel_rfl, by kernel_rfl⟩
theorem U71 : Und ktab 71 rStableMove := ⟨by kernel_rfl, by kernel_rfl⟩
theorem U76 : Und ktab 76 rWashJob := ⟨by kernel_rfl, by kernel_rfl⟩
theorem U78 : Und ktab 78 (rFn ktab (Int × Int) (Bool) (fun x => [.val (rInt .i64) (x.1), .val (rInt .i64) (x.2)]) (fun y => [.val rBool (y)])) := ⟨by kernel_rfl, by kernel_rfl⟩
theorem U84 : Und ktab 84 (rSlice rBool) := ⟨by kernel_rfl, by kernel_rfl⟩
theorem U87 : Und ktab 87 (rPtr rdepot_night) := ⟨by kernel_rfl, by kernel_rfl⟩
theorem U90 : Und ktab 90 (rSlice rStablePlan) := ⟨by kernel_rfl, by kernel_rfl⟩
theorem U99 : Und ktab 99 (rSlice rdepot_wash) := ⟨by kernel_rfl, by kernel_rfl⟩
theorem S22 : Sl ktab 22 3 (rInt .i64) := ⟨by kernel_rfl, by kernel_rfl, by kernel_rfl, by decide⟩
theorem S31 : Sl ktab 31 48 rStableTrack := ⟨by kernel_rfl, by kernel_rfl, by kernel_rfl, by decide⟩
theorem S32 : Sl ktab 32 44 rStableCar := ⟨by kernel_rfl, by kernel_rfl, by kernel_rfl, by decide⟩
theorem S33 : Sl ktab 33 46 rStableLeave := ⟨by kernel_rfl, by kernel_rfl, by kernel_rfl, by decide⟩
theorem S49 : Sl ktab 49 76 rWashJob := ⟨by kernel_rfl, by kernel_rfl, by kernel_rfl, by decide⟩
theorem S65 : Sl ktab 65 71 rStableMove := ⟨by kernel_rfl, by kernel_rfl, by kernel_rfl, by decide⟩
theorem S79 : Sl ktab 79 3 (rInt .i64) := ⟨by kernel_rfl, by kernel_rfl, by kernel_rfl, by decide⟩
theorem S81 : Sl ktab 81 22 (rSlice (rInt .i64)) := ⟨by kernel_rfl, by kernel_rfl, by kernel_rfl, by decide⟩
theorem S84 : Sl ktab 84 4 rBool := ⟨by kernel_rfl, by kernel_rfl, by kernel_rfl, by decide⟩
theorem S90 : Sl ktab 90 36 rStablePlan := ⟨by kernel_rfl, by kernel_rfl, by kernel_rfl, by decide⟩
theorem S99 : Sl ktab 99 102 rdepot_wash := ⟨by kernel_rfl, by kernel_rfl, by kernel_rfl, by decide⟩
theorem Y3 : Ty ktab 3 (rInt .i64) 8 := ⟨⟨ti3, by kernel_rfl, by kernel_rfl, by kernel_rfl⟩, ⟨.int .i64 0, by kernel_rfl, rfl⟩, by decide⟩
theorem Y4 : Ty ktab 4 rBool 1 := ⟨⟨ti4, by kernel_rfl, by kernel_rfl, by kernel_rfl⟩, ⟨.bool false, by kernel_rfl, rfl⟩, by decide⟩
theorem Y22 : Ty ktab 22 (rSlice (rInt .i64)) 24 := ⟨⟨ti22, by kernel_rfl, by kernel_rfl, by kernel_rfl⟩, ⟨.nilslice, by kernel_rfl, rfl⟩, by decide⟩
theorem Y36 : Ty ktab 36 rStablePlan 56 := ⟨⟨ti36, by kernel_rfl, by kernel_rfl, by kernel_rfl⟩, ⟨.agg [.nilslice, .nilslice, .int .i64 0], by kernel_rfl, rfl⟩, by decide⟩
theorem Y71 : Ty ktab 71 rStableMove 24 := ⟨⟨ti71, by kernel_rfl, by kernel_rfl, by kernel_rfl⟩, ⟨.agg [.int .i64 0, .int .i64 0, .int .i64 0], by kernel_rfl, rfl⟩, by decide⟩
theorem Y102 : Ty ktab 102 rdepot_wash 40 := ⟨⟨ti102, by kernel_rfl, by kernel_rfl, by kernel_rfl⟩, ⟨.agg [.nilslice, .int .i64 0, .int .i64 0], by kernel_rfl, rfl⟩, by decide⟩
theorem Z3 : Zr ktab 3 (rInt .i64) 0 := ⟨⟨.int .i64 0, by kernel_rfl, fun _ => ⟨zint, rfl⟩⟩⟩
theorem Z4 : Zr ktab 4 rBool false := ⟨⟨.bool false, by kernel_rfl, fun _ => ⟨zbool, rfl⟩⟩⟩
theorem SR81 : Sl ktab 81 22 rRaw := ⟨by kernel_rfl, by kernel_rfl, by kernel_rfl, by decide⟩
theorem UR22 : Und ktab 22 rRaw := ⟨by kernel_rfl, by kernel_rfl⟩
theorem UR27 : Und ktab 27 rRaw := ⟨by kernel_rfl, by kernel_rfl⟩
theorem UR108 : Und ktab 108 rRaw := ⟨by kernel_rfl, by kernel_rfl⟩
theorem YR22 : Ty ktab 22 rRaw 24 := ⟨⟨ti22, by kernel_rfl, by kernel_rfl, by kernel_rfl⟩, ⟨.nilslice, by kernel_rfl, rfl⟩, by decide⟩
theorem B36 : Stt ktab 36 [.nilslice, .nilslice, .int .i64 0] [(0, 1), (1, 1), (2, 1)] := ⟨by kernel_rfl, ⟨fl35, by kernel_rfl, by kernel_rfl⟩⟩
theorem B71 : Stt ktab 71 [.int .i64 0, .int .i64 0, .int .i64 0] [(0, 1), (1, 1), (2, 1)] := ⟨by kernel_rfl, ⟨fl70, by kernel_rfl, by kernel_rfl⟩⟩
theorem B89 : Stt ktab 89 [.nilslice, .nilslice, .nilslice] [(0, 1), (1, 1), (2, 1)] := ⟨by kernel_rfl, ⟨fl88, by kernel_rfl, by kernel_rfl⟩⟩
theorem B102 : Stt ktab 102 [.nilslice, .int .i64 0, .int .i64 0] [(0, 1), (1, 1), (2, 1)] := ⟨by kernel_rfl, ⟨fl101, by kernel_rfl, by kernel_rfl⟩⟩
theorem F36_0 : Fld ktab 36 0 22 0 1 := ⟨⟨fl35, fi35_0, by kernel_rfl, by kernel_rfl, by kernel_rfl, by kernel_rfl⟩, by kernel_rfl⟩
theorem F36_1 : Fld ktab 36 1 22 1 1 := ⟨⟨fl35, fi35_1, by kernel_rfl, by kernel_rfl, by kernel_rfl, by kernel_rfl⟩, by kernel_rfl⟩
theorem F36_2 : Fld ktab 36 2 3 2 1 := ⟨⟨fl35, fi35_2, by kernel_rfl, by kernel_rfl, by kernel_rfl, by kernel_rfl⟩, by kernel_rfl⟩
theorem F44_0 : Fld ktab 44 0 3 0 1 := ⟨⟨fl43, fi43_0, by kernel_rfl, by kernel_rfl, by kernel_rfl, by kernel_rfl⟩, by kernel_rfl⟩
theorem F44_1 : Fld ktab 44 1 3 1 1 := ⟨⟨fl43, fi43_1, by kernel_rfl, by kernel_rfl, by kernel_rfl, by kernel_rfl⟩, by kernel_rfl⟩
theorem F44_2 : Fld ktab 44 2 3 2 1 := ⟨⟨fl43, fi43_2, by kernel_rfl, by kernel_rfl, by kernel_rfl, by kernel_rfl⟩, by kernel_rfl⟩
theorem F44_3 : Fld ktab 44 3 3 3 1 := ⟨⟨fl43, fi43_3, by kernel_rfl, by kernel_rfl, by kernel_rfl, by kernel_rfl⟩, by kernel_rfl⟩
theorem F46_0 : Fld ktab 46 0 3 0 1 := ⟨⟨fl45, fi45_0, by kernel_rfl, by kernel_rfl, by kernel_rfl, by kernel_rfl⟩, by kernel_rfl⟩
theorem F46_1 : Fld ktab 46 1 3 1 1 := ⟨⟨fl45, fi45_1, by kernel_rfl, by kernel_rfl, by kernel_rfl, by kernel_rfl⟩, by kernel_rfl⟩
theorem F48_0 : Fld ktab 48 0 3 0 1 := ⟨⟨fl47, fi47_0, by kernel_rfl, by kernel_rfl, by kernel_rfl, by kernel_rfl⟩, by kernel_rfl⟩
theorem F48_1 : Fld ktab 48 1 4 1 1 := ⟨⟨fl47, fi47_1, by kernel_rfl, by kernel_rfl, by kernel_rfl, by kernel_rfl⟩, by kernel_rfl⟩
theorem F71_0 : Fld ktab 71 0 69 0 1 := ⟨⟨fl70, fi70_0, by kernel_rfl, by kernel_rfl, by kernel_rfl, by kernel_rfl⟩, by kernel_rfl⟩
theorem F71_1 : Fld ktab 71 1 3 1 1 := ⟨⟨fl70, fi70_1, by kernel_rfl, by kernel_rfl, by kernel_rfl, by kernel_rfl⟩, by kernel_rfl⟩
theorem F71_2 : Fld ktab 71 2 3 2 1 := ⟨⟨fl70, fi70_2, by kernel_rfl, by kernel_rfl, by kernel_rfl, by kernel_rfl⟩, by kernel_rfl⟩
theorem F76_0 : Fld ktab 76 0 3 0 1 := ⟨⟨fl75, fi75_0, by kernel_rfl, by kernel_rfl, by kernel_rfl, by kernel_rfl⟩, by kernel_rfl⟩
theorem F76_1 : Fld ktab 76 1 3 1 1 := ⟨⟨fl75, fi75_1, by kernel_rfl, by kernel_rfl, by kernel_rfl, by kernel_rfl⟩, by kernel_rfl⟩
theorem F76_2 : Fld ktab 76 2 3 2 1 := ⟨⟨fl75, fi75_2, by kernel_rfl, by kernel_rfl, by kernel_rfl, by kernel_rfl⟩, by kernel_rfl⟩
theorem F89_0 : Fld ktab 89 0 31 0 1 := ⟨⟨fl88, fi88_0, by kernel_rfl, by kernel_rfl, by kernel_rfl, by kernel_rfl⟩, by kernel_rfl⟩
theorem F89_1 : Fld ktab 89 1 32 1 1 := ⟨⟨fl88, fi88_1, by kernel_rfl, by kernel_rfl, by kernel_rfl, by kernel_rfl⟩, by kernel_rfl⟩
theorem F89_2 : Fld ktab 89 2 33 2 1 := ⟨⟨fl88, fi88_2, by kernel_rfl, by kernel_rfl, by kernel_rfl, by kernel_rfl⟩, by kernel_rfl⟩
theorem F102_0 : Fld ktab 102 0 22 0 1 := ⟨⟨fl101, fi101_0, by kernel_rfl, by kernel_rfl, by kernel_rfl, by kernel_rfl⟩, by kernel_rfl⟩
theorem F102_1 : Fld ktab 102 1 3 1 1 := ⟨⟨fl101, fi101_1, by kernel_rfl, by kernel_rfl, by kernel_rfl, by kernel_rfl⟩, by kernel_rfl⟩
theorem F102_2 : Fld ktab 102 2 3 2 1 := ⟨⟨fl101, fi101_2, by kernel_rfl, by kernel_rfl, by kernel_rfl, by kernel_rfl⟩, by kernel_rfl⟩
theorem E70 : SEq ktab 70 rStableMove (fun x y => x == y) := ⟨⟨fl70, by kernel_rfl, by rw [show fl70.toList = [fi70_0, fi70_1, fi70_2] by kernel_rfl]; exact (.i (of_decide_eq_true (by kernel_rfl)) (by kernel_rfl) (by kernel_rfl) (.i (of_decide_eq_true (by kernel_rfl)) (by kernel_rfl) (by kernel_rfl) (.i (of_decide_eq_true (by kernel_rfl)) (by kernel_rfl) (by kernel_rfl) .n)))⟩, by kernel_rfl, by kernel_rfl⟩
theorem E71 : SEq ktab 71 rStableMove (fun x y => x == y) := ⟨⟨fl70, by kernel_rfl, by rw [show fl70.toList = [fi70_0, fi70_1, fi70_2] by kernel_rfl]; exact (.i (of_decide_eq_true (by kernel_rfl)) (by kernel_rfl) (by kernel_rfl) (.i (of_decide_eq_true (by kernel_rfl)) (by kernel_rfl) (by kernel_rfl) (.i (of_decide_eq_true (by kernel_rfl)) (by kernel_rfl) (by kernel_rfl) .n)))⟩, by kernel_rfl, by kernel_rfl⟩
end Go.Ai.TabYtpiblfbidgcjaaa

/- What the rows of this seat ask, of the abstract interpreter. -/
namespace Go.Ai.TabYtpiblfbidgcjaaa
open Go Go.Ai Go.Ai.Sx Go.Proofs Go.Proofs.Ytpiblfbidgcjaaa

theorem own : ownKnob Try.prog.godebug = none := by kernel_rfl
theorem laidOut : laidOutB Try.prog = true := by kernel_rfl
theorem begun : decide (Try.prog.globals.size < (begin Try.prog (fun _ _ => 0) default).world.heap.size) = true := by kernel_rfl

theorem notEmpty {W : World} (h : W.ShapedOpen Try.prog) : 0 < W.heap.size := by
  obtain ⟨o, _, ho, _⟩ := h.2 Try.prog.globals.size (Nat.le_refl _) (of_decide_eq_true begun)
  have := (Array.getElem?_eq_some_iff.1 ho).1
  omega

theorem o3 : Opens Try.prog 3 (rInt .i64) := opens_int Try.underlying3 (by kernel_rfl)
theorem o4 : Opens Try.prog 4 rBool := opens_bool Try.underlying4 (by kernel_rfl)
theorem o22 : Opens Try.prog 22 (rSlice (rInt .i64)) := opens_slice Try.underlying22 (by kernel_rfl) o3 (by decide)
end Go.Ai.TabYtpiblfbidgcjaaa

/- What the rows of this seat ask: arguments that are rows of structs. -/
namespace Go.Ai.TabYtpiblfbidgcjaaa
open Go Go.Ai Go.Ai.Sx Go.Proofs Go.Proofs.Ytpiblfbidgcjaaa

theorem opensF_at {P : Program} {A B : Type} {f : Field} {fs : List Field} {o : Nat} {t : TypeId} {R : Rep A} {S : Rep B} (hf : f.offset = o) (ht : f.type = t) (ho : Opens P t R) (hs : OpensF P fs (o + R.sz) S) : OpensF P (f :: fs) o (rPair R S) := by
  subst ht
  exact opensF_cons hf ho hs

theorem o76 : Opens Try.prog 76 rWashJob := opens_struct (fs := fl75) (by kernel_rfl) (by kernel_rfl) rfl (by
  rw [show fl75.toList = [fi75_0, fi75_1, fi75_2] by kernel_rfl]
  exact opensF_at (by kernel_rfl) (by kernel_rfl) o3 (opensF_at (by kernel_rfl) (by kernel_rfl) o3 (opensF_at (by kernel_rfl) (by kernel_rfl) o3 (opensF_nil _))))
theorem o49 : Opens Try.prog 49 (rSlice rWashJob) := opens_slice (by kernel_rfl) (by kernel_rfl) o76 (by decide)
end Go.Ai.TabYtpiblfbidgcjaaa

/- What the rows of this seat ask: nights and plans. -/
namespace Go.Ai.TabYtpiblfbidgcjaaa
open Go Go.Ai Go.Ai.Sx Go.Proofs Go.Proofs.Ytpiblfbidgcjaaa

theorem o48 : Opens Try.prog 48 rStableTrack := opens_struct (fs := fl47) (by kernel_rfl) (by kernel_rfl) rfl (by
  rw [show fl47.toList = [fi47_0, fi47_1] by kernel_rfl]
  exact opensF_at (by kernel_rfl) (by kernel_rfl) o3 (opensF_at (by kernel_rfl) (by kernel_rfl) o4 (opensF_nil _)))
theorem o44 : Opens Try.prog 44 rStableCar := opens_struct (fs := fl43) (by kernel_rfl) (by kernel_rfl) rfl (by
  rw [show fl43.toList = [fi43_0, fi43_1, fi43_2, fi43_3] by kernel_rfl]
  exact opensF_at (by kernel_rfl) (by kernel_rfl) o3 (opensF_at (by kernel_rfl) (by kernel_rfl) o3 (opensF_at (by kernel_rfl) (by kernel_rfl) o3 (opensF_at (by kernel_rfl) (by kernel_rfl) o3 (opensF_nil _)))))
theorem o46 : Opens Try.prog 46 rStableLeave := opens_struct (fs := fl45) (by kernel_rfl) (by kernel_rfl) rfl (by
  rw [show fl45.toList = [fi45_0, fi45_1] by kernel_rfl]
  exact opensF_at (by kernel_rfl) (by kernel_rfl) o3 (opensF_at (by kernel_rfl) (by kernel_rfl) o3 (opensF_nil _)))
theorem o36 : Opens Try.prog 36 rStablePlan := opens_struct (fs := fl35) (by kernel_rfl) (by kernel_rfl) rfl (by
  rw [show fl35.toList = [fi35_0, fi35_1, fi35_2] by kernel_rfl]
  exact opensF_at (by kernel_rfl) (by kernel_rfl) o22 (opensF_at (by kernel_rfl) (by kernel_rfl) o22 (opensF_at (by kernel_rfl) (by kernel_rfl) o3 (opensF_nil _))))
theorem o31 : Opens Try.prog 31 (rSlice rStableTrack) := opens_slice (by kernel_rfl) (by kernel_rfl) o48 (by decide)
theorem o32 : Opens Try.prog 32 (rSlice rStableCar) := opens_slice (by kernel_rfl) (by kernel_rfl) o44 (by decide)
theorem o33 : Opens Try.prog 33 (rSlice rStableLeave) := opens_slice (by kernel_rfl) (by kernel_rfl) o46 (by decide)
end Go.Ai.TabYtpiblfbidgcjaaa
