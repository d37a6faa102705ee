import Derived.Test.YtciondmibomehaaGreatDoorKB
set_option maxRecDepth 100000
set_option linter.unusedSectionVars false
set_option linter.unusedVariables false
set_option linter.unusedSimpArgs false
set_option linter.constructorNameAsVariable false
noncomputable section
namespace Go.Fm
open Go.Proofs
def X8 : Env' := (E2.withM 348 (deepF [e60]))
def l8 : List (FuncId × Ent) := [(276, e109)]
theorem x8 : (l8.all fun q => chkRow q.2 (callK X8 3000 (.f q.1) q.2.vs (memOf q.2.pre) q.2.n)) = true := by decide +kernel
section
variable [Gl]
theorem o8 (hp : PowOk) : EnvOk Tryz.prog X8 := (EnvOk.addM (e2_ok hp) (ms_cons (k60 hp) ms_nil))
theorem k109 (hp : PowOk) : MSpec Tryz.prog 276 (deepF [e109]) := ms_row (o8 hp) 3000 x8 (.head _)
end
def X9 : Env' := (E2.withM 348 (deepF [e60]))
def l9 : List (FuncId × Ent) := [(276, e61)]
theorem x9 : (l9.all fun q => chkRow q.2 (callK X9 3000 (.f q.1) q.2.vs (memOf q.2.pre) q.2.n)) = true := by decide +kernel
section
variable [Gl]
theorem o9 (hp : PowOk) : EnvOk Tryz.prog X9 := (EnvOk.addM (e2_ok hp) (ms_cons (k60 hp) ms_nil))
theorem k61 (hp : PowOk) : MSpec Tryz.prog 276 (deepF [e61]) := ms_row (o9 hp) 3000 x9 (.head _)
end
end Go.Fm
namespace Go.Fm
open Go.Proofs
def X10 : Env' := (E2.withM 348 (deepF [e35]))
def l10 : List (FuncId × Ent) := [(276, e82)]
theorem x10 : (l10.all fun q => chkRow q.2 (callK X10 3000 (.f q.1) q.2.vs (memOf q.2.pre) q.2.n)) = true := by decide +kernel
section
variable [Gl]
theorem o10 (hp : PowOk) : EnvOk Tryz.prog X10 := (EnvOk.addM (e2_ok hp) (ms_cons (k35 hp) ms_nil))
theorem k82 (hp : PowOk) : MSpec Tryz.prog 276 (deepF [e82]) := ms_row (o10 hp) 3000 x10 (.head _)
end
def X11 : Env' := (E2.withM 348 (deepF [e35]))
def l11 : List (FuncId × Ent) := [(276, e50)]
theorem x11 : (l11.all fun q => chkRow q.2 (callK X11 3000 (.f q.1) q.2.vs (memOf q.2.pre) q.2.n)) = true := by decide +kernel
section
variable [Gl]
theorem o11 (hp : PowOk) : EnvOk Tryz.prog X11 := (EnvOk.addM (e2_ok hp) (ms_cons (k35 hp) ms_nil))
theorem k50 (hp : PowOk) : MSpec Tryz.prog 276 (deepF [e50]) := ms_row (o11 hp) 3000 x11 (.head _)
end
end Go.Fm
end
