/- What is computed is what the program does. -/
import Derived.Test.YtlifdeocdbjalaaGreatDoorKJG0
import Derived.Test.YtlifdeocdbjalaaGreatDoorKJG1
import Derived.Test.YtlifdeocdbjalaaGreatDoorKJG2
namespace Go.Proofs.YtlifdeocdbjalaaGreatDoor
open Go Go.aN
set_option maxRecDepth 100000
set_option linter.unusedVariables false
set_option linter.unusedSimpArgs false
namespace J
theorem aeY:Ah C Ds Cs:=⟨t0,t1,t2,t3,t4,t5,t6,t7,t8,t9,t10,t11,t12,t13,t14,t15,t16,t17,t18,t19,t20,t21,t22,t23,t24,t25,t26,t27,t28,t29,t30,t31,t32,t33,t34,t35,t36,t37,t38,t39,t40,t41,t42,t43,t44,t45,t46,t47,t48,t49,t50,t51,t52,t53,t54,t55,t56,t57,t58,t59,t60,t61,t62,t63,t64,t65,t66,t67,t68,t69,t70,t71,t72,t73,t74,t75,t76,t77,t78,t79,t80,t81,t82,t83,t84,t85,t86,t87,t88,t89,t90,t91,t92,t93,t94,t95,t96,t97,t98,t99,ao8,ao9,apa,apb,apc,t105,apd,t107,ape,t109,apf,apg,aph,apj,apk,apl,t116,t117,apm,t119,apn,apo,apq,apr,t124,aps,apt,t127,apu,apv,t130,t131,apw,apx,apy,apz,apA,apB,t138,t139,apC,t141,apD,t143,apE,t145,t146,apF,t148,apG,apH,apI,t152,apJ,t154,apK,t156,t157,apL,t159,t160,apM,t162,apN,t164,apO,apP,t167,t168,trivial⟩
theorem ajx:∀k gs out,TT.lim k gs=some out→C k gs out:=ajz aeY
end J
end Go.Proofs.YtlifdeocdbjalaaGreatDoor
