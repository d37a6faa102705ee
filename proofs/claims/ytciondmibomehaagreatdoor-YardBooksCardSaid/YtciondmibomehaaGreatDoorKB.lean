import Derived.Test.YtciondmibomehaaGreatDoorKR
set_option maxRecDepth 100000
set_option linter.unusedSectionVars false
set_option linter.unusedVariables false
set_option linter.unusedSimpArgs false
set_option linter.constructorNameAsVariable false
noncomputable section
namespace Go.Fm
open Go.Proofs
def X2 : Env' := (((E2.withM 92 (deepF [e2, e3, e7, e22, e27, e45, e55, e67, e86, e88, e100, e102, e107])).withM 273 (deepF [e29, e30, e31, e32, e33, e34, e48, e49, e58, e59, e69, e70])).withM 348 (deepF [e60]))
def l2 : List (FuncId × Ent) := [(48, e4), (49, e5), (49, e8), (49, e23), (49, e24), (49, e28), (408, e37), (408, e38), (408, e39), (408, e40), (408, e41), (408, e42), (49, e46), (408, e51), (408, e52), (49, e56), (408, e62), (408, e63), (49, e68), (408, e72), (408, e73), (49, e87), (49, e89), (276, e90), (49, e101), (49, e103), (49, e108)]
theorem x2 : (l2.all fun q => chkRow q.2 (callK X2 3000 (.f q.1) q.2.vs (memOf q.2.pre) q.2.n)) = true := by decide +kernel
section
variable [Gl]
theorem o2 (hp : PowOk) : EnvOk Tryz.prog X2 := (EnvOk.addM (EnvOk.addM (EnvOk.addM (e2_ok hp) (ms_cons (k2 hp) (ms_cons (k3 hp) (ms_cons (k7 hp) (ms_cons (k22 hp) (ms_cons (k27 hp) (ms_cons (k45 hp) (ms_cons (k55 hp) (ms_cons (k67 hp) (ms_cons (k86 hp) (ms_cons (k88 hp) (ms_cons (k100 hp) (ms_cons (k102 hp) (ms_cons (k107 hp) ms_nil)))))))))))))) (ms_cons (k29 hp) (ms_cons (k30 hp) (ms_cons (k31 hp) (ms_cons (k32 hp) (ms_cons (k33 hp) (ms_cons (k34 hp) (ms_cons (k48 hp) (ms_cons (k49 hp) (ms_cons (k58 hp) (ms_cons (k59 hp) (ms_cons (k69 hp) (ms_cons (k70 hp) ms_nil))))))))))))) (ms_cons (k60 hp) ms_nil))
theorem k4 (hp : PowOk) : MSpec Tryz.prog 48 (deepF [e4]) := ms_row (o2 hp) 3000 x2 (.head _)
theorem k5 (hp : PowOk) : MSpec Tryz.prog 49 (deepF [e5]) := ms_row (o2 hp) 3000 x2 (.tail _ (.head _))
theorem k8 (hp : PowOk) : MSpec Tryz.prog 49 (deepF [e8]) := ms_row (o2 hp) 3000 x2 (.tail _ (.tail _ (.head _)))
theorem k23 (hp : PowOk) : MSpec Tryz.prog 49 (deepF [e23]) := ms_row (o2 hp) 3000 x2 (.tail _ (.tail _ (.tail _ (.head _))))
theorem k24 (hp : PowOk) : MSpec Tryz.prog 49 (deepF [e24]) := ms_row (o2 hp) 3000 x2 (.tail _ (.tail _ (.tail _ (.tail _ (.head _)))))
theorem k28 (hp : PowOk) : MSpec Tryz.prog 49 (deepF [e28]) := ms_row (o2 hp) 3000 x2 (.tail _ (.tail _ (.tail _ (.tail _ (.tail _ (.head _))))))
theorem k37 (hp : PowOk) : MSpec Tryz.prog 408 (deepF [e37]) := ms_row (o2 hp) 3000 x2 (.tail _ (.tail _ (.tail _ (.tail _ (.tail _ (.tail _ (.head _)))))))
theorem k38 (hp : PowOk) : MSpec Tryz.prog 408 (deepF [e38]) := ms_row (o2 hp) 3000 x2 (.tail _ (.tail _ (.tail _ (.tail _ (.tail _ (.tail _ (.tail _ (.head _))))))))
theorem k39 (hp : PowOk) : MSpec Tryz.prog 408 (deepF [e39]) := ms_row (o2 hp) 3000 x2 (.tail _ (.tail _ (.tail _ (.tail _ (.tail _ (.tail _ (.tail _ (.tail _ (.head _)))))))))
theorem k40 (hp : PowOk) : MSpec Tryz.prog 408 (deepF [e40]) := ms_row (o2 hp) 3000 x2 (.tail _ (.tail _ (.tail _ (.tail _ (.tail _ (.tail _ (.tail _ (.tail _ (.tail _ (.head _))))))))))
theorem k41 (hp : PowOk) : MSpec Tryz.prog 408 (deepF [e41]) := ms_row (o2 hp) 3000 x2 (.tail _ (.tail _ (.tail _ (.tail _ (.tail _ (.tail _ (.tail _ (.tail _ (.tail _ (.tail _ (.head _)))))))))))
theorem k42 (hp : PowOk) : MSpec Tryz.prog 408 (deepF [e42]) := ms_row (o2 hp) 3000 x2 (.tail _ (.tail _ (.tail _ (.tail _ (.tail _ (.tail _ (.tail _ (.tail _ (.tail _ (.tail _ (.tail _ (.head _))))))))))))
theorem k46 (hp : PowOk) : MSpec Tryz.prog 49 (deepF [e46]) := ms_row (o2 hp) 3000 x2 (.tail _ (.tail _ (.tail _ (.tail _ (.tail _ (.tail _ (.tail _ (.tail _ (.tail _ (.tail _ (.tail _ (.tail _ (.head _)))))))))))))
theorem k51 (hp : PowOk) : MSpec Tryz.prog 408 (deepF [e51]) := ms_row (o2 hp) 3000 x2 (.tail _ (.tail _ (.tail _ (.tail _ (.tail _ (.tail _ (.tail _ (.tail _ (.tail _ (.tail _ (.tail _ (.tail _ (.tail _ (.head _))))))))))))))
theorem k52 (hp : PowOk) : MSpec Tryz.prog 408 (deepF [e52]) := ms_row (o2 hp) 3000 x2 (.tail _ (.tail _ (.tail _ (.tail _ (.tail _ (.tail _ (.tail _ (.tail _ (.tail _ (.tail _ (.tail _ (.tail _ (.tail _ (.tail _ (.head _)))))))))))))))
theorem k56 (hp : PowOk) : MSpec Tryz.prog 49 (deepF [e56]) := ms_row (o2 hp) 3000 x2 (.tail _ (.tail _ (.tail _ (.tail _ (.tail _ (.tail _ (.tail _ (.tail _ (.tail _ (.tail _ (.tail _ (.tail _ (.tail _ (.tail _ (.tail _ (.head _))))))))))))))))
theorem k62 (hp : PowOk) : MSpec Tryz.prog 408 (deepF [e62]) := ms_row (o2 hp) 3000 x2 (.tail _ (.tail _ (.tail _ (.tail _ (.tail _ (.tail _ (.tail _ (.tail _ (.tail _ (.tail _ (.tail _ (.tail _ (.tail _ (.tail _ (.tail _ (.tail _ (.head _)))))))))))))))))
theorem k63 (hp : PowOk) : MSpec Tryz.prog 408 (deepF [e63]) := ms_row (o2 hp) 3000 x2 (.tail _ (.tail _ (.tail _ (.tail _ (.tail _ (.tail _ (.tail _ (.tail _ (.tail _ (.tail _ (.tail _ (.tail _ (.tail _ (.tail _ (.tail _ (.tail _ (.tail _ (.head _))))))))))))))))))
theorem k68 (hp : PowOk) : MSpec Tryz.prog 49 (deepF [e68]) := ms_row (o2 hp) 3000 x2 (.tail _ (.tail _ (.tail _ (.tail _ (.tail _ (.tail _ (.tail _ (.tail _ (.tail _ (.tail _ (.tail _ (.tail _ (.tail _ (.tail _ (.tail _ (.tail _ (.tail _ (.tail _ (.head _)))))))))))))))))))
theorem k72 (hp : PowOk) : MSpec Tryz.prog 408 (deepF [e72]) := ms_row (o2 hp) 3000 x2 (.tail _ (.tail _ (.tail _ (.tail _ (.tail _ (.tail _ (.tail _ (.tail _ (.tail _ (.tail _ (.tail _ (.tail _ (.tail _ (.tail _ (.tail _ (.tail _ (.tail _ (.tail _ (.tail _ (.head _))))))))))))))))))))
theorem k73 (hp : PowOk) : MSpec Tryz.prog 408 (deepF [e73]) := ms_row (o2 hp) 3000 x2 (.tail _ (.tail _ (.tail _ (.tail _ (.tail _ (.tail _ (.tail _ (.tail _ (.tail _ (.tail _ (.tail _ (.tail _ (.tail _ (.tail _ (.tail _ (.tail _ (.tail _ (.tail _ (.tail _ (.tail _ (.head _)))))))))))))))))))))
theorem k87 (hp : PowOk) : MSpec Tryz.prog 49 (deepF [e87]) := ms_row (o2 hp) 3000 x2 (.tail _ (.tail _ (.tail _ (.tail _ (.tail _ (.tail _ (.tail _ (.tail _ (.tail _ (.tail _ (.tail _ (.tail _ (.tail _ (.tail _ (.tail _ (.tail _ (.tail _ (.tail _ (.tail _ (.tail _ (.tail _ (.head _))))))))))))))))))))))
theorem k89 (hp : PowOk) : MSpec Tryz.prog 49 (deepF [e89]) := ms_row (o2 hp) 3000 x2 (.tail _ (.tail _ (.tail _ (.tail _ (.tail _ (.tail _ (.tail _ (.tail _ (.tail _ (.tail _ (.tail _ (.tail _ (.tail _ (.tail _ (.tail _ (.tail _ (.tail _ (.tail _ (.tail _ (.tail _ (.tail _ (.tail _ (.head _)))))))))))))))))))))))
theorem k90 (hp : PowOk) : MSpec Tryz.prog 276 (deepF [e90]) := ms_row (o2 hp) 3000 x2 (.tail _ (.tail _ (.tail _ (.tail _ (.tail _ (.tail _ (.tail _ (.tail _ (.tail _ (.tail _ (.tail _ (.tail _ (.tail _ (.tail _ (.tail _ (.tail _ (.tail _ (.tail _ (.tail _ (.tail _ (.tail _ (.tail _ (.tail _ (.head _))))))))))))))))))))))))
theorem k101 (hp : PowOk) : MSpec Tryz.prog 49 (deepF [e101]) := ms_row (o2 hp) 3000 x2 (.tail _ (.tail _ (.tail _ (.tail _ (.tail _ (.tail _ (.tail _ (.tail _ (.tail _ (.tail _ (.tail _ (.tail _ (.tail _ (.tail _ (.tail _ (.tail _ (.tail _ (.tail _ (.tail _ (.tail _ (.tail _ (.tail _ (.tail _ (.tail _ (.head _)))))))))))))))))))))))))
theorem k103 (hp : PowOk) : MSpec Tryz.prog 49 (deepF [e103]) := ms_row (o2 hp) 3000 x2 (.tail _ (.tail _ (.tail _ (.tail _ (.tail _ (.tail _ (.tail _ (.tail _ (.tail _ (.tail _ (.tail _ (.tail _ (.tail _ (.tail _ (.tail _ (.tail _ (.tail _ (.tail _ (.tail _ (.tail _ (.tail _ (.tail _ (.tail _ (.tail _ (.tail _ (.head _))))))))))))))))))))))))))
theorem k108 (hp : PowOk) : MSpec Tryz.prog 49 (deepF [e108]) := ms_row (o2 hp) 3000 x2 (.tail _ (.tail _ (.tail _ (.tail _ (.tail _ (.tail _ (.tail _ (.tail _ (.tail _ (.tail _ (.tail _ (.tail _ (.tail _ (.tail _ (.tail _ (.tail _ (.tail _ (.tail _ (.tail _ (.tail _ (.tail _ (.tail _ (.tail _ (.tail _ (.tail _ (.tail _ (.head _)))))))))))))))))))))))))))
end
def X3 : Env' := (E2.withM 348 (deepF [e80]))
def l3 : List (FuncId × Ent) := [(276, e81)]
theorem x3 : (l3.all fun q => chkRow q.2 (callK X3 3000 (.f q.1) q.2.vs (memOf q.2.pre) q.2.n)) = true := by decide +kernel
section
variable [Gl]
theorem o3 (hp : PowOk) : EnvOk Tryz.prog X3 := (EnvOk.addM (e2_ok hp) (ms_cons (k80 hp) ms_nil))
theorem k81 (hp : PowOk) : MSpec Tryz.prog 276 (deepF [e81]) := ms_row (o3 hp) 3000 x3 (.head _)
end
def X4 : Env' := (E2.withM 348 (deepF [e35]))
def l4 : List (FuncId × Ent) := [(276, e36)]
theorem x4 : (l4.all fun q => chkRow q.2 (callK X4 3000 (.f q.1) q.2.vs (memOf q.2.pre) q.2.n)) = true := by decide +kernel
section
variable [Gl]
theorem o4 (hp : PowOk) : EnvOk Tryz.prog X4 := (EnvOk.addM (e2_ok hp) (ms_cons (k35 hp) ms_nil))
theorem k36 (hp : PowOk) : MSpec Tryz.prog 276 (deepF [e36]) := ms_row (o4 hp) 3000 x4 (.head _)
end
end Go.Fm
namespace Go.Fm
open Go.Proofs
def X5 : Env' := (E2.withM 348 (deepF [e35]))
def l5 : List (FuncId × Ent) := [(276, e104)]
theorem x5 : (l5.all fun q => chkRow q.2 (callK X5 3000 (.f q.1) q.2.vs (memOf q.2.pre) q.2.n)) = true := by decide +kernel
section
variable [Gl]
theorem o5 (hp : PowOk) : EnvOk Tryz.prog X5 := (EnvOk.addM (e2_ok hp) (ms_cons (k35 hp) ms_nil))
theorem k104 (hp : PowOk) : MSpec Tryz.prog 276 (deepF [e104]) := ms_row (o5 hp) 3000 x5 (.head _)
end
def X6 : Env' := (E2.withM 348 (deepF [e60]))
def l6 : List (FuncId × Ent) := [(276, e71)]
theorem x6 : (l6.all fun q => chkRow q.2 (callK X6 3000 (.f q.1) q.2.vs (memOf q.2.pre) q.2.n)) = true := by decide +kernel
section
variable [Gl]
theorem o6 (hp : PowOk) : EnvOk Tryz.prog X6 := (EnvOk.addM (e2_ok hp) (ms_cons (k60 hp) ms_nil))
theorem k71 (hp : PowOk) : MSpec Tryz.prog 276 (deepF [e71]) := ms_row (o6 hp) 3000 x6 (.head _)
end
def X7 : Env' := (E2.withM 15 (deepF [e11, e12, e13, e14, e15, e16, e17]))
def l7 : List (FuncId × Ent) := [(18, e18)]
theorem x7 : (l7.all fun q => chkRow q.2 (callK X7 3000 (.f q.1) q.2.vs (memOf q.2.pre) q.2.n)) = true := by decide +kernel
section
variable [Gl]
theorem o7 (hp : PowOk) : EnvOk Tryz.prog X7 := (EnvOk.addM (e2_ok hp) (ms_cons (k11 hp) (ms_cons (k12 hp) (ms_cons (k13 hp) (ms_cons (k14 hp) (ms_cons (k15 hp) (ms_cons (k16 hp) (ms_cons (k17 hp) ms_nil))))))))
theorem k18 (hp : PowOk) : MSpec Tryz.prog 18 (deepF [e18]) := ms_row (o7 hp) 3000 x7 (.head _)
end
end Go.Fm
end
