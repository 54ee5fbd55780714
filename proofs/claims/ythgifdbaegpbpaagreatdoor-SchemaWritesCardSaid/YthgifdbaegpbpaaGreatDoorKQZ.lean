/- What is computed is what the program does. -/
import Derived.Test.YthgifdbaegpbpaaGreatDoorKQG0
import Derived.Test.YthgifdbaegpbpaaGreatDoorKQG1
import Derived.Test.YthgifdbaegpbpaaGreatDoorKQG2
import Derived.Test.YthgifdbaegpbpaaGreatDoorKQG3
namespace Go.Proofs.YthgifdbaegpbpaaGreatDoor
open Go Go.aP
set_option maxRecDepth 100000
set_option linter.unusedVariables false
set_option linter.unusedSimpArgs false
namespace Q
theorem afb:Bv C Ds Cs:=⟨t0,t1,t2,t3,t4,t5,t6,t7,t8,t9,t10,t11,t12,t13,t14,t15,t16,t17,t18,t19,t20,t21,t22,t23,t24,t25,t26,t27,t28,t29,t30,t31,t32,t33,t34,t35,t36,t37,t38,t39,t40,t41,t42,t43,t44,t45,t46,t47,t48,t49,t50,t51,t52,t53,t54,t55,t56,t57,t58,t59,t60,t61,t62,t63,t64,t65,t66,t67,t68,t69,t70,t71,t72,t73,t74,t75,t76,t77,t78,t79,t80,t81,t82,t83,t84,t85,t86,t87,t88,t89,t90,t91,t92,t93,t94,t95,t96,t97,t98,t99,apA,apB,apC,apD,apE,t105,apF,t107,apG,t109,apH,apI,apJ,apK,apL,apM,t116,t117,apN,t119,apO,apP,apQ,apR,t124,apS,apT,t127,apU,apV,t130,t131,apW,apX,apY,apZ,ap0,ap1,t138,t139,ap2,t141,ap3,t143,ap4,t145,t146,ap5,t148,ap6,ap7,ap8,t152,ap9,t154,aqa,t156,t157,aqb,t159,t160,aqc,t162,aqd,t164,aqe,aqf,t167,t168,trivial⟩
theorem ajL:∀k gs out,TT.lim k gs=some out→C k gs out:=ajN afb
end Q
end Go.Proofs.YthgifdbaegpbpaaGreatDoor
