import Derived.Test.YtciondmibomehaaGreatDoorTA
set_option maxRecDepth 100000
set_option linter.unusedSectionVars false
set_option linter.unusedVariables false
set_option linter.unusedSimpArgs false
set_option linter.constructorNameAsVariable false
noncomputable section
namespace Go.Proofs.YtciondmibomehaaGreatDoor
open Go
theorem t4 : tl.map (fun x => Tryz.prog.kindOfLater x.1) = [LaidKind.sentinel, .sentinel, .data, .data, .data, .data].map some := by kernel_rfl
theorem vn_of {P : Program} {g : FuncId} {laid : List (String × DataW Unit)} {code : Code} {stored : List Nat} (h1 : (P.funcs[g]?).bind (·.body) = some code) (h2 : code.laysInOrder [] = some stored) (h3 : (stored.eraseDups.length == stored.length) = true)
 (h4 : P.callsLaidAlone g code = true) (h5 : (laid.all fun x => (P.globalNamed x.1).any fun v => (stored.contains v == (P.kindBase x.1 != some .zero)) && callsFit code v (P.kindBase x.1) &&
   ((code.storedByHandle P).contains v == (P.kindBase x.1 == some .handle)) && (x.2.handleName?.isSome == (P.kindBase x.1 == some .handle || P.kindBase x.1 == some .funcs)) &&
   (P.kindBase x.1 != some .handle || handlePair x) && (x.2.funcsIn?.isSome == (P.kindBase x.1 == some .funcs)) && mapsFit code v x.2 (P.kindBase x.1)) = true) : varsNamedLaterB P g laid = true := by
 unfold varsNamedLaterB
 simp only [h1, h2, h3, h4, h5, Bool.and_self]
def vcode : Code := (Tryz.f770.body).getD .skip
def vst : List Nat := (vcode.laysInOrder []).getD []
theorem v1 : (Tryz.prog.funcs[770]?).bind (·.body) = some vcode := by rw [Tryz.func770]; rfl
theorem v2 : vcode.laysInOrder [] = some vst := by kernel_rfl
theorem v3 : (vst.eraseDups.length == vst.length) = true := by kernel_rfl
theorem v4a : (!vcode.unfollowedBeside Tryz.prog) = true := by kernel_rfl
theorem v4b : (vcode.tempsApart 0).isSome = true := by kernel_rfl
theorem v4c : vcode.regionsFit Tryz.prog [] = true := by kernel_rfl
theorem v4d : ((vcode.storedByHandle Tryz.prog).isEmpty || ((Tryz.prog.funcNamed "(internal/reflectlite.rtype).Elem").any fun h => (Tryz.prog.funcs[h]?).any fun fn => fn.body.isNone && !entryCalls fn)) = true := by kernel_rfl
theorem v4e : ((vcode.storedByHandle Tryz.prog).all fun v => Tryz.prog.globalNamed "errors.errorType" == some v) = true := by kernel_rfl
theorem v4 : Tryz.prog.callsLaidAlone 770 vcode = true := by
 unfold Program.callsLaidAlone
 rw [v4a, v4b, v4c, v4d, v4e]; rfl
theorem t6 : varsNamedLaterB Tryz.prog (varsId Tryz.prog) tl = true := by
 rw [hv]
 exact vn_of v1 v2 v3 v4 (by kernel_rfl)
end Go.Proofs.YtciondmibomehaaGreatDoor
end
