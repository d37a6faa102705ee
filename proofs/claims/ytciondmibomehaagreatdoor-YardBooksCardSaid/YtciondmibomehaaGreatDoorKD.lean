import Derived.Test.YtciondmibomehaaGreatDoorKC
set_option maxRecDepth 100000
set_option linter.unusedSectionVars false
set_option linter.unusedVariables false
set_option linter.unusedSimpArgs false
set_option linter.constructorNameAsVariable false
noncomputable section
namespace Go.Fm
open Go.Proofs
def X12 : Env' := ((((E2.withM 48 (deepF [e4, e6, e20, e21, e26, e44, e54, e66, e84, e85, e98, e99])).withM 49 (deepF [e5, e8, e23, e24, e28, e46, e56, e68, e87, e89, e101, e103])).withM 276 (deepF [e81, e82, e90, e104])).withM 408 (deepF [e37, e38, e41, e42, e51, e52]))
def l12 : List (FuncId × Ent) := [(17, e9), (190, e25), (190, e47), (190, e57), (190, e65), (308, e83), (308, e91), (203, e105)]
theorem x12 : (l12.all fun q => chkRow q.2 (callK X12 3000 (.f q.1) q.2.vs (memOf q.2.pre) q.2.n)) = true := by decide +kernel
section
variable [Gl]
theorem o12 (hp : PowOk) : EnvOk Tryz.prog X12 := (EnvOk.addM (EnvOk.addM (EnvOk.addM (EnvOk.addM (e2_ok hp) (ms_cons (k4 hp) (ms_cons (k6 hp) (ms_cons (k20 hp) (ms_cons (k21 hp) (ms_cons (k26 hp) (ms_cons (k44 hp) (ms_cons (k54 hp) (ms_cons (k66 hp) (ms_cons (k84 hp) (ms_cons (k85 hp) (ms_cons (k98 hp) (ms_cons (k99 hp) ms_nil))))))))))))) (ms_cons (k5 hp) (ms_cons (k8 hp) (ms_cons (k23 hp) (ms_cons (k24 hp) (ms_cons (k28 hp) (ms_cons (k46 hp) (ms_cons (k56 hp) (ms_cons (k68 hp) (ms_cons (k87 hp) (ms_cons (k89 hp) (ms_cons (k101 hp) (ms_cons (k103 hp) ms_nil))))))))))))) (ms_cons (k81 hp) (ms_cons (k82 hp) (ms_cons (k90 hp) (ms_cons (k104 hp) ms_nil))))) (ms_cons (k37 hp) (ms_cons (k38 hp) (ms_cons (k41 hp) (ms_cons (k42 hp) (ms_cons (k51 hp) (ms_cons (k52 hp) ms_nil)))))))
theorem k9 (hp : PowOk) : MSpec Tryz.prog 17 (deepF [e9]) := ms_row (o12 hp) 3000 x12 (.head _)
theorem k25 (hp : PowOk) : MSpec Tryz.prog 190 (deepF [e25]) := ms_row (o12 hp) 3000 x12 (.tail _ (.head _))
theorem k47 (hp : PowOk) : MSpec Tryz.prog 190 (deepF [e47]) := ms_row (o12 hp) 3000 x12 (.tail _ (.tail _ (.head _)))
theorem k57 (hp : PowOk) : MSpec Tryz.prog 190 (deepF [e57]) := ms_row (o12 hp) 3000 x12 (.tail _ (.tail _ (.tail _ (.head _))))
theorem k65 (hp : PowOk) : MSpec Tryz.prog 190 (deepF [e65]) := ms_row (o12 hp) 3000 x12 (.tail _ (.tail _ (.tail _ (.tail _ (.head _)))))
theorem k83 (hp : PowOk) : MSpec Tryz.prog 308 (deepF [e83]) := ms_row (o12 hp) 3000 x12 (.tail _ (.tail _ (.tail _ (.tail _ (.tail _ (.head _))))))
theorem k91 (hp : PowOk) : MSpec Tryz.prog 308 (deepF [e91]) := ms_row (o12 hp) 3000 x12 (.tail _ (.tail _ (.tail _ (.tail _ (.tail _ (.tail _ (.head _)))))))
theorem k105 (hp : PowOk) : MSpec Tryz.prog 203 (deepF [e105]) := ms_row (o12 hp) 3000 x12 (.tail _ (.tail _ (.tail _ (.tail _ (.tail _ (.tail _ (.tail _ (.head _))))))))
end
def X13 : Env' := ((((E2.withM 48 (deepF [e20, e21, e66, e84, e85])).withM 49 (deepF [e23, e24, e28, e68, e87, e89])).withM 276 (deepF [e81, e90])).withM 408 (deepF [e40, e41, e42, e62, e72, e73]))
def l13 : List (FuncId × Ent) := [(203, e111)]
theorem x13 : (l13.all fun q => chkRow q.2 (callK X13 3000 (.f q.1) q.2.vs (memOf q.2.pre) q.2.n)) = true := by decide +kernel
section
variable [Gl]
theorem o13 (hp : PowOk) : EnvOk Tryz.prog X13 := (EnvOk.addM (EnvOk.addM (EnvOk.addM (EnvOk.addM (e2_ok hp) (ms_cons (k20 hp) (ms_cons (k21 hp) (ms_cons (k66 hp) (ms_cons (k84 hp) (ms_cons (k85 hp) ms_nil)))))) (ms_cons (k23 hp) (ms_cons (k24 hp) (ms_cons (k28 hp) (ms_cons (k68 hp) (ms_cons (k87 hp) (ms_cons (k89 hp) ms_nil))))))) (ms_cons (k81 hp) (ms_cons (k90 hp) ms_nil))) (ms_cons (k40 hp) (ms_cons (k41 hp) (ms_cons (k42 hp) (ms_cons (k62 hp) (ms_cons (k72 hp) (ms_cons (k73 hp) ms_nil)))))))
theorem k111 (hp : PowOk) : MSpec Tryz.prog 203 (deepF [e111]) := ms_row (o13 hp) 3000 x13 (.head _)
end
end Go.Fm
namespace Go.Fm
open Go.Proofs
def X14 : Env' := ((((E2.withM 48 (deepF [e20, e21, e26, e66, e106])).withM 49 (deepF [e23, e24, e28, e56, e68, e108])).withM 276 (deepF [e81, e109])).withM 408 (deepF [e37, e38, e41, e42, e62, e63]))
def l14 : List (FuncId × Ent) := [(203, e110)]
theorem x14 : (l14.all fun q => chkRow q.2 (callK X14 3000 (.f q.1) q.2.vs (memOf q.2.pre) q.2.n)) = true := by decide +kernel
section
variable [Gl]
theorem o14 (hp : PowOk) : EnvOk Tryz.prog X14 := (EnvOk.addM (EnvOk.addM (EnvOk.addM (EnvOk.addM (e2_ok hp) (ms_cons (k20 hp) (ms_cons (k21 hp) (ms_cons (k26 hp) (ms_cons (k66 hp) (ms_cons (k106 hp) ms_nil)))))) (ms_cons (k23 hp) (ms_cons (k24 hp) (ms_cons (k28 hp) (ms_cons (k56 hp) (ms_cons (k68 hp) (ms_cons (k108 hp) ms_nil))))))) (ms_cons (k81 hp) (ms_cons (k109 hp) ms_nil))) (ms_cons (k37 hp) (ms_cons (k38 hp) (ms_cons (k41 hp) (ms_cons (k42 hp) (ms_cons (k62 hp) (ms_cons (k63 hp) ms_nil)))))))
theorem k110 (hp : PowOk) : MSpec Tryz.prog 203 (deepF [e110]) := ms_row (o14 hp) 3000 x14 (.head _)
end
def X15 : Env' := ((((E2.withM 48 (deepF [e20, e21, e26])).withM 49 (deepF [e23, e24, e28])).withM 276 (deepF [e81, e82])).withM 408 (deepF [e37, e38, e39, e40, e41, e42]))
def l15 : List (FuncId × Ent) := [(203, e97)]
theorem x15 : (l15.all fun q => chkRow q.2 (callK X15 3000 (.f q.1) q.2.vs (memOf q.2.pre) q.2.n)) = true := by decide +kernel
section
variable [Gl]
theorem o15 (hp : PowOk) : EnvOk Tryz.prog X15 := (EnvOk.addM (EnvOk.addM (EnvOk.addM (EnvOk.addM (e2_ok hp) (ms_cons (k20 hp) (ms_cons (k21 hp) (ms_cons (k26 hp) ms_nil)))) (ms_cons (k23 hp) (ms_cons (k24 hp) (ms_cons (k28 hp) ms_nil)))) (ms_cons (k81 hp) (ms_cons (k82 hp) ms_nil))) (ms_cons (k37 hp) (ms_cons (k38 hp) (ms_cons (k39 hp) (ms_cons (k40 hp) (ms_cons (k41 hp) (ms_cons (k42 hp) ms_nil)))))))
theorem k97 (hp : PowOk) : MSpec Tryz.prog 203 (deepF [e97]) := ms_row (o15 hp) 3000 x15 (.head _)
end
end Go.Fm
end
