import Derived.Test.YtammfmmmblgkkaaGreatDoorKD
set_option maxRecDepth 100000
set_option linter.unusedSectionVars false
set_option linter.unusedVariables false
set_option linter.unusedSimpArgs false
set_option linter.constructorNameAsVariable false
namespace Go.Fm
open Go.Proofs
noncomputable def X16 : Env' := (((((((E2.withM 29 (deepF [e21, e26, e66])).withM 30 (deepF [e23, e24, e28, e68])).withM 180 (deepF [e25, e65])).withM 260 (deepF [e29, e30, e31, e32, e33, e34, e58, e69, e70])).withM 263 (deepF [e36, e71])).withM 297 (deepF [e83, e91, e92])).withM 397 (deepF [e37, e38, e39, e40, e41, e42, e62, e72, e73]))
noncomputable def l16 : List (FuncId × Ent) := [(97, e43), (97, e74), (284, e93), (284, e96)]
theorem x16 : (l16.all fun q => chkRow q.2 (callK X16 3000 (.f q.1) q.2.vs (memOf q.2.pre) q.2.n)) = true := by decide +kernel
section
variable [Gl]
theorem o16 (hp : PowOk) : EnvOk Tryz.prog X16 := (EnvOk.addM (EnvOk.addM (EnvOk.addM (EnvOk.addM (EnvOk.addM (EnvOk.addM (EnvOk.addM (e2_ok hp) (ms_cons (k21 hp) (ms_cons (k26 hp) (ms_cons (k66 hp) ms_nil)))) (ms_cons (k23 hp) (ms_cons (k24 hp) (ms_cons (k28 hp) (ms_cons (k68 hp) ms_nil))))) (ms_cons (k25 hp) (ms_cons (k65 hp) ms_nil))) (ms_cons (k29 hp) (ms_cons (k30 hp) (ms_cons (k31 hp) (ms_cons (k32 hp) (ms_cons (k33 hp) (ms_cons (k34 hp) (ms_cons (k58 hp) (ms_cons (k69 hp) (ms_cons (k70 hp) ms_nil)))))))))) (ms_cons (k36 hp) (ms_cons (k71 hp) ms_nil))) (ms_cons (k83 hp) (ms_cons (k91 hp) (ms_cons (k92 hp) ms_nil)))) (ms_cons (k37 hp) (ms_cons (k38 hp) (ms_cons (k39 hp) (ms_cons (k40 hp) (ms_cons (k41 hp) (ms_cons (k42 hp) (ms_cons (k62 hp) (ms_cons (k72 hp) (ms_cons (k73 hp) ms_nil))))))))))
theorem k43 (hp : PowOk) : MSpec Tryz.prog 97 (deepF [e43]) := ms_row (o16 hp) 3000 x16 (.head _)
theorem k74 (hp : PowOk) : MSpec Tryz.prog 97 (deepF [e74]) := ms_row (o16 hp) 3000 x16 (.tail _ (.head _))
theorem k93 (hp : PowOk) : MSpec Tryz.prog 284 (deepF [e93]) := ms_row (o16 hp) 3000 x16 (.tail _ (.tail _ (.head _)))
theorem k96 (hp : PowOk) : MSpec Tryz.prog 284 (deepF [e96]) := ms_row (o16 hp) 3000 x16 (.tail _ (.tail _ (.tail _ (.head _))))
end
noncomputable def X17 : Env' := ((((((E2.withM 29 (deepF [e21, e26])).withM 30 (deepF [e23, e24, e28, e46, e56])).withM 180 (deepF [e47, e57])).withM 260 (deepF [e29, e30, e33, e34, e48, e49, e58, e59])).withM 263 (deepF [e50, e61])).withM 397 (deepF [e37, e38, e41, e42, e51, e52, e62, e63]))
noncomputable def l17 : List (FuncId × Ent) := [(97, e53), (97, e64), (284, e94), (284, e95)]
theorem x17 : (l17.all fun q => chkRow q.2 (callK X17 3000 (.f q.1) q.2.vs (memOf q.2.pre) q.2.n)) = true := by decide +kernel
section
variable [Gl]
theorem o17 (hp : PowOk) : EnvOk Tryz.prog X17 := (EnvOk.addM (EnvOk.addM (EnvOk.addM (EnvOk.addM (EnvOk.addM (EnvOk.addM (e2_ok hp) (ms_cons (k21 hp) (ms_cons (k26 hp) ms_nil))) (ms_cons (k23 hp) (ms_cons (k24 hp) (ms_cons (k28 hp) (ms_cons (k46 hp) (ms_cons (k56 hp) ms_nil)))))) (ms_cons (k47 hp) (ms_cons (k57 hp) ms_nil))) (ms_cons (k29 hp) (ms_cons (k30 hp) (ms_cons (k33 hp) (ms_cons (k34 hp) (ms_cons (k48 hp) (ms_cons (k49 hp) (ms_cons (k58 hp) (ms_cons (k59 hp) ms_nil))))))))) (ms_cons (k50 hp) (ms_cons (k61 hp) ms_nil))) (ms_cons (k37 hp) (ms_cons (k38 hp) (ms_cons (k41 hp) (ms_cons (k42 hp) (ms_cons (k51 hp) (ms_cons (k52 hp) (ms_cons (k62 hp) (ms_cons (k63 hp) ms_nil)))))))))
theorem k53 (hp : PowOk) : MSpec Tryz.prog 97 (deepF [e53]) := ms_row (o17 hp) 3000 x17 (.head _)
theorem k64 (hp : PowOk) : MSpec Tryz.prog 97 (deepF [e64]) := ms_row (o17 hp) 3000 x17 (.tail _ (.head _))
theorem k94 (hp : PowOk) : MSpec Tryz.prog 284 (deepF [e94]) := ms_row (o17 hp) 3000 x17 (.tail _ (.tail _ (.head _)))
theorem k95 (hp : PowOk) : MSpec Tryz.prog 284 (deepF [e95]) := ms_row (o17 hp) 3000 x17 (.tail _ (.tail _ (.tail _ (.head _))))
end
noncomputable def X18 : Env' := (E2.withM 97 (deepF [e43, e53, e64, e74]))
noncomputable def l18 : List (FuncId × Ent) := [(43, e75)]
theorem x18 : (l18.all fun q => chkRow q.2 (callK X18 3000 (.f q.1) q.2.vs (memOf q.2.pre) q.2.n)) = true := by decide +kernel
section
variable [Gl]
theorem o18 (hp : PowOk) : EnvOk Tryz.prog X18 := (EnvOk.addM (e2_ok hp) (ms_cons (k43 hp) (ms_cons (k53 hp) (ms_cons (k64 hp) (ms_cons (k74 hp) ms_nil)))))
theorem k75 (hp : PowOk) : MSpec Tryz.prog 43 (deepF [e75]) := ms_row (o18 hp) 3000 x18 (.head _)
end
noncomputable def X19 : Env' := (((E2.withM 43 (deepF [e75])).withM 193 (deepF [e97, e105, e110, e111, e112])).withM 284 (deepF [e93, e94, e95, e96]))
noncomputable def l19 : List (FuncId × Ent) := [(13, e76), (16, e113)]
theorem x19 : (l19.all fun q => chkRow q.2 (callK X19 3000 (.f q.1) q.2.vs (memOf q.2.pre) q.2.n)) = true := by decide +kernel
section
variable [Gl]
theorem o19 (hp : PowOk) : EnvOk Tryz.prog X19 := (EnvOk.addM (EnvOk.addM (EnvOk.addM (e2_ok hp) (ms_cons (k75 hp) ms_nil)) (ms_cons (k97 hp) (ms_cons (k105 hp) (ms_cons (k110 hp) (ms_cons (k111 hp) (ms_cons (k112 hp) ms_nil)))))) (ms_cons (k93 hp) (ms_cons (k94 hp) (ms_cons (k95 hp) (ms_cons (k96 hp) ms_nil)))))
theorem k76 (hp : PowOk) : MSpec Tryz.prog 13 (deepF [e76]) := ms_row (o19 hp) 3000 x19 (.head _)
theorem k113 (hp : PowOk) : MSpec Tryz.prog 16 (deepF [e113]) := ms_row (o19 hp) 3000 x19 (.tail _ (.head _))
end
noncomputable def X20 : Env' := ((E2.withM 11 (deepF [e18])).withM 13 (deepF [e76]))
noncomputable def l20 : List (FuncId × Ent) := [(16, e78)]
theorem x20 : (l20.all fun q => chkRow q.2 (callK X20 3000 (.f q.1) q.2.vs (memOf q.2.pre) q.2.n)) = true := by decide +kernel
section
variable [Gl]
theorem o20 (hp : PowOk) : EnvOk Tryz.prog X20 := (EnvOk.addM (EnvOk.addM (e2_ok hp) (ms_cons (k18 hp) ms_nil)) (ms_cons (k76 hp) ms_nil))
theorem k78 (hp : PowOk) : MSpec Tryz.prog 16 (deepF [e78]) := ms_row (o20 hp) 3000 x20 (.head _)
end
noncomputable def X21 : Env' := (((((((((E2.withM 5 (deepF [e114])).withM 8 (deepF [e0, e10])).withM 9 (deepF [e1])).withM 10 (deepF [e9])).withM 11 (deepF [e18])).withM 12 (deepF [e19])).withM 13 (deepF [e76])).withM 16 (deepF [e78, e79, e113])).withM 17 (deepF [e77]))
noncomputable def l21 : List (FuncId × Ent) := [(4, e115)]
theorem x21 : (l21.all fun q => chkRow q.2 (callK X21 3000 (.f q.1) q.2.vs (memOf q.2.pre) q.2.n)) = true := by decide +kernel
section
variable [Gl]
theorem o21 (hp : PowOk) : EnvOk Tryz.prog X21 := (EnvOk.addM (EnvOk.addM (EnvOk.addM (EnvOk.addM (EnvOk.addM (EnvOk.addM (EnvOk.addM (EnvOk.addM (EnvOk.addM (e2_ok hp) (ms_cons (k114 hp) ms_nil)) (ms_cons (k0 hp) (ms_cons (k10 hp) ms_nil))) (ms_cons (k1 hp) ms_nil)) (ms_cons (k9 hp) ms_nil)) (ms_cons (k18 hp) ms_nil)) (ms_cons (k19 hp) ms_nil)) (ms_cons (k76 hp) ms_nil)) (ms_cons (k78 hp) (ms_cons (k79 hp) (ms_cons (k113 hp) ms_nil)))) (ms_cons (k77 hp) ms_nil))
theorem k115 (hp : PowOk) : MSpec Tryz.prog 4 (deepF [e115]) := ms_row (o21 hp) 3000 x21 (.head _)
end
end Go.Fm
namespace Go.Fm
open Go.Proofs
section
variable [Gl]
theorem nsAwake (hp : PowOk) : NSpec Tryz.prog 4 tAwake := ns_of_ms (k115 hp) fun vs v hF => by
 unfold tAwake at hF
 split at hF
 ·injection hF with hF; subst hF
  exact ⟨rfl, rfl, _, _, rfl⟩
 ·cases hF
theorem nsLaw (hp : PowOk) : NSpec Tryz.prog 3 tLaw := nsP3 (nsAwake hp) (nsP69 hp) nsP126
end
end Go.Fm
namespace Go.Fm
open Go.Proofs Go.RowKit
theorem calls_of_ns [Ctx] {P : Program} {f : FuncId} {F : List V → Option V} (h : NSpec P f F) (hent : ∀ args w, (callFunc f args).run P w = .ok (.enter f args) w) {vs : List V} {v : V} (hF : F vs = some v) {β : Nat → Nat × Nat} {kn : Nat → Prop} {args : Array Value} {w : World} (hva : VA β kn vs args) (hgl : GL w) :
    Calls P f args w fun e w' => ∃ x, e = .returned x ∧ VR β kn v x ∧ Below w.heap.size w w' := by
  let o : Oper := { dst := some 0, op := .call { callee := .value (.func f), args := #[], argTypes := #[] }, type := 0, pos := "", after := #[], guard := none }
  let a : Act := { tmps := #[undef], defers := [] }
  have hh := h vs v hF β kn args w hva hgl none o a (fun a' w' => ∃ x, a' = a.put (some 0) x ∧ VR β kn v x ∧ Below w.heap.size w w') (fun _ _ _ => False) fun x w' hx hb => ⟨x, rfl, hx, hb⟩
  rw [hent args w] at hh
  refine (callsIn_FW.1 hh.2).mono ?_
  intro e w' he
  cases e with
  | returned y =>
    obtain ⟨x, e1, hx, hb⟩ := he
    have : y = x := by
      have := congrArg (fun q : Act => q.tmps[0]?) e1
      simpa [o, a, Act.put] using this
    subst this
    exact ⟨y, rfl, hx, hb⟩
  | panicked c => exact he.elim
  | outgrown =>
    obtain ⟨_, _, h⟩ := he
    exact h.elim
theorem ent3 : ∀ args w, (callFunc 3 args).run Tryz.prog w = .ok (.enter 3 args) w := enters_of Tryz.func3 (by kernel_rfl) rfl
theorem law_calls [Gl] (hp : PowOk) (s : ByteArray) (w : World) (hgl : GL w) : Calls Tryz.prog 3 #[.string s] w fun e w' => e = .returned (.bool true) ∧ Below w.heap.size w w' := by
  refine (calls_of_ns (nsLaw hp) ent3 (vs := [.str s]) (v := .bool true) rfl (β := fun _ => (0, 0)) (kn := fun _ => False) (args := #[.string s]) ⟨rfl, fun i v x e1 e2 => ?_⟩ hgl).mono ?_
  · match i with
    | 0 => simp at e1 e2; subst e1 e2; exact .str s
    | i + 1 => simp at e1
  · rintro e w' ⟨x, rfl, hx, hb⟩
    cases hx
    exact ⟨rfl, hb⟩
theorem law_calls_at {g : Nat} {t : TypeId} {cs : Array Value} {fr : Nat × Nat} (hg : Tryz.prog.globalNamed powN = some g) (hcs : cs = (Lib.pow10Tab.map fun z => Value.int .u64 z).toArray) (s : ByteArray) (w : World) (hw : w.heap[g]? = some (.cells cs t fr)) :
    Calls Tryz.prog 3 #[.string s] w fun e w' => e = .returned (.bool true) ∧ Below w.heap.size w w' := by
  letI : Gl := ⟨[(g, .cells cs t fr)]⟩
  refine law_calls (fun w2 h2 => ?_) s w fun q hq => ?_
  · have e := h2 (g, .cells cs t fr) (List.mem_singleton.2 rfl)
    have e' : w2.heap[g]? = some (.cells cs t fr) := e
    show w2.var? Tryz.prog powN = _
    unfold World.var?
    rw [hg]
    simp [e', hcs]
  · have : q = (g, .cells cs t fr) := List.mem_singleton.1 hq
    subst this
    exact hw
end Go.Fm
