import Derived.Test.YtciondmibomehaaGreatDoorKD
import Derived.SliceStrings
import Derived.ChangeArms
import Derived.WideShapes
set_option maxRecDepth 100000
set_option linter.unusedSectionVars false
set_option linter.unusedVariables false
set_option linter.unusedSimpArgs false
set_option linter.constructorNameAsVariable false
noncomputable section
namespace Go.Fm
open Go.Proofs
def X16 : Env' := (((((((E2.withM 48 (deepF [e21, e26, e66])).withM 49 (deepF [e23, e24, e28, e68])).withM 190 (deepF [e25, e65])).withM 273 (deepF [e29, e30, e31, e32, e33, e34, e58, e69, e70])).withM 276 (deepF [e36, e71])).withM 308 (deepF [e83, e91, e92])).withM 408 (deepF [e37, e38, e39, e40, e41, e42, e62, e72, e73]))
def l16 : List (FuncId × Ent) := [(115, e43), (115, e74), (297, e93), (297, e96)]
theorem x16 : (l16.all fun q => chkRow q.2 (callK X16 3000 (.f q.1) q.2.vs (memOf q.2.pre) q.2.n)) = true := by decide +kernel
section
variable [Gl]
theorem o16 (hp : PowOk) : EnvOk Tryz.prog X16 := (EnvOk.addM (EnvOk.addM (EnvOk.addM (EnvOk.addM (EnvOk.addM (EnvOk.addM (EnvOk.addM (e2_ok hp) (ms_cons (k21 hp) (ms_cons (k26 hp) (ms_cons (k66 hp) ms_nil)))) (ms_cons (k23 hp) (ms_cons (k24 hp) (ms_cons (k28 hp) (ms_cons (k68 hp) ms_nil))))) (ms_cons (k25 hp) (ms_cons (k65 hp) ms_nil))) (ms_cons (k29 hp) (ms_cons (k30 hp) (ms_cons (k31 hp) (ms_cons (k32 hp) (ms_cons (k33 hp) (ms_cons (k34 hp) (ms_cons (k58 hp) (ms_cons (k69 hp) (ms_cons (k70 hp) ms_nil)))))))))) (ms_cons (k36 hp) (ms_cons (k71 hp) ms_nil))) (ms_cons (k83 hp) (ms_cons (k91 hp) (ms_cons (k92 hp) ms_nil)))) (ms_cons (k37 hp) (ms_cons (k38 hp) (ms_cons (k39 hp) (ms_cons (k40 hp) (ms_cons (k41 hp) (ms_cons (k42 hp) (ms_cons (k62 hp) (ms_cons (k72 hp) (ms_cons (k73 hp) ms_nil))))))))))
theorem k43 (hp : PowOk) : MSpec Tryz.prog 115 (deepF [e43]) := ms_row (o16 hp) 3000 x16 (.head _)
theorem k74 (hp : PowOk) : MSpec Tryz.prog 115 (deepF [e74]) := ms_row (o16 hp) 3000 x16 (.tail _ (.head _))
theorem k93 (hp : PowOk) : MSpec Tryz.prog 297 (deepF [e93]) := ms_row (o16 hp) 3000 x16 (.tail _ (.tail _ (.head _)))
theorem k96 (hp : PowOk) : MSpec Tryz.prog 297 (deepF [e96]) := ms_row (o16 hp) 3000 x16 (.tail _ (.tail _ (.tail _ (.head _))))
end
def X17 : Env' := ((((((E2.withM 48 (deepF [e21, e26])).withM 49 (deepF [e23, e24, e28, e46, e56])).withM 190 (deepF [e47, e57])).withM 273 (deepF [e29, e30, e33, e34, e48, e49, e58, e59])).withM 276 (deepF [e50, e61])).withM 408 (deepF [e37, e38, e41, e42, e51, e52, e62, e63]))
def l17 : List (FuncId × Ent) := [(115, e53), (115, e64), (297, e94), (297, e95)]
theorem x17 : (l17.all fun q => chkRow q.2 (callK X17 3000 (.f q.1) q.2.vs (memOf q.2.pre) q.2.n)) = true := by decide +kernel
section
variable [Gl]
theorem o17 (hp : PowOk) : EnvOk Tryz.prog X17 := (EnvOk.addM (EnvOk.addM (EnvOk.addM (EnvOk.addM (EnvOk.addM (EnvOk.addM (e2_ok hp) (ms_cons (k21 hp) (ms_cons (k26 hp) ms_nil))) (ms_cons (k23 hp) (ms_cons (k24 hp) (ms_cons (k28 hp) (ms_cons (k46 hp) (ms_cons (k56 hp) ms_nil)))))) (ms_cons (k47 hp) (ms_cons (k57 hp) ms_nil))) (ms_cons (k29 hp) (ms_cons (k30 hp) (ms_cons (k33 hp) (ms_cons (k34 hp) (ms_cons (k48 hp) (ms_cons (k49 hp) (ms_cons (k58 hp) (ms_cons (k59 hp) ms_nil))))))))) (ms_cons (k50 hp) (ms_cons (k61 hp) ms_nil))) (ms_cons (k37 hp) (ms_cons (k38 hp) (ms_cons (k41 hp) (ms_cons (k42 hp) (ms_cons (k51 hp) (ms_cons (k52 hp) (ms_cons (k62 hp) (ms_cons (k63 hp) ms_nil)))))))))
theorem k53 (hp : PowOk) : MSpec Tryz.prog 115 (deepF [e53]) := ms_row (o17 hp) 3000 x17 (.head _)
theorem k64 (hp : PowOk) : MSpec Tryz.prog 115 (deepF [e64]) := ms_row (o17 hp) 3000 x17 (.tail _ (.head _))
theorem k94 (hp : PowOk) : MSpec Tryz.prog 297 (deepF [e94]) := ms_row (o17 hp) 3000 x17 (.tail _ (.tail _ (.head _)))
theorem k95 (hp : PowOk) : MSpec Tryz.prog 297 (deepF [e95]) := ms_row (o17 hp) 3000 x17 (.tail _ (.tail _ (.tail _ (.head _))))
end
def X18 : Env' := (E2.withM 115 (deepF [e43, e53, e64, e74]))
def l18 : List (FuncId × Ent) := [(62, e75)]
theorem x18 : (l18.all fun q => chkRow q.2 (callK X18 3000 (.f q.1) q.2.vs (memOf q.2.pre) q.2.n)) = true := by decide +kernel
section
variable [Gl]
theorem o18 (hp : PowOk) : EnvOk Tryz.prog X18 := (EnvOk.addM (e2_ok hp) (ms_cons (k43 hp) (ms_cons (k53 hp) (ms_cons (k64 hp) (ms_cons (k74 hp) ms_nil)))))
theorem k75 (hp : PowOk) : MSpec Tryz.prog 62 (deepF [e75]) := ms_row (o18 hp) 3000 x18 (.head _)
end
def X19 : Env' := (((E2.withM 62 (deepF [e75])).withM 203 (deepF [e97, e105, e110, e111, e112])).withM 297 (deepF [e93, e94, e95, e96]))
def l19 : List (FuncId × Ent) := [(20, e76), (23, e113)]
theorem x19 : (l19.all fun q => chkRow q.2 (callK X19 3000 (.f q.1) q.2.vs (memOf q.2.pre) q.2.n)) = true := by decide +kernel
section
variable [Gl]
theorem o19 (hp : PowOk) : EnvOk Tryz.prog X19 := (EnvOk.addM (EnvOk.addM (EnvOk.addM (e2_ok hp) (ms_cons (k75 hp) ms_nil)) (ms_cons (k97 hp) (ms_cons (k105 hp) (ms_cons (k110 hp) (ms_cons (k111 hp) (ms_cons (k112 hp) ms_nil)))))) (ms_cons (k93 hp) (ms_cons (k94 hp) (ms_cons (k95 hp) (ms_cons (k96 hp) ms_nil)))))
theorem k76 (hp : PowOk) : MSpec Tryz.prog 20 (deepF [e76]) := ms_row (o19 hp) 3000 x19 (.head _)
theorem k113 (hp : PowOk) : MSpec Tryz.prog 23 (deepF [e113]) := ms_row (o19 hp) 3000 x19 (.tail _ (.head _))
end
def X20 : Env' := ((E2.withM 18 (deepF [e18])).withM 20 (deepF [e76]))
def l20 : List (FuncId × Ent) := [(23, e78)]
theorem x20 : (l20.all fun q => chkRow q.2 (callK X20 3000 (.f q.1) q.2.vs (memOf q.2.pre) q.2.n)) = true := by decide +kernel
section
variable [Gl]
theorem o20 (hp : PowOk) : EnvOk Tryz.prog X20 := (EnvOk.addM (EnvOk.addM (e2_ok hp) (ms_cons (k18 hp) ms_nil)) (ms_cons (k76 hp) ms_nil))
theorem k78 (hp : PowOk) : MSpec Tryz.prog 23 (deepF [e78]) := ms_row (o20 hp) 3000 x20 (.head _)
end
def X21 : Env' := (((((((((E2.withM 15 (deepF [e0, e10])).withM 16 (deepF [e1])).withM 17 (deepF [e9])).withM 18 (deepF [e18])).withM 19 (deepF [e19])).withM 20 (deepF [e76])).withM 23 (deepF [e78, e79, e113])).withM 24 (deepF [e77])).withM 25 (deepF [e114]))
def l21 : List (FuncId × Ent) := [(5, e115)]
theorem x21 : (l21.all fun q => chkRow q.2 (callK X21 3000 (.f q.1) q.2.vs (memOf q.2.pre) q.2.n)) = true := by decide +kernel
section
variable [Gl]
theorem o21 (hp : PowOk) : EnvOk Tryz.prog X21 := (EnvOk.addM (EnvOk.addM (EnvOk.addM (EnvOk.addM (EnvOk.addM (EnvOk.addM (EnvOk.addM (EnvOk.addM (EnvOk.addM (e2_ok hp) (ms_cons (k0 hp) (ms_cons (k10 hp) ms_nil))) (ms_cons (k1 hp) ms_nil)) (ms_cons (k9 hp) ms_nil)) (ms_cons (k18 hp) ms_nil)) (ms_cons (k19 hp) ms_nil)) (ms_cons (k76 hp) ms_nil)) (ms_cons (k78 hp) (ms_cons (k79 hp) (ms_cons (k113 hp) ms_nil)))) (ms_cons (k77 hp) ms_nil)) (ms_cons (k114 hp) ms_nil))
theorem k115 (hp : PowOk) : MSpec Tryz.prog 5 (deepF [e115]) := ms_row (o21 hp) 3000 x21 (.head _)
end
end Go.Fm
namespace Go.Fm
open Go.Proofs
def E3 : Env' := E2.withNat 175 tCount1
theorem has140 : Has E3 140 fn197 := ⟨by kernel_rfl, by kernel_rfl, by kernel_rfl⟩
theorem has218 : Has E3 218 fn292 := ⟨by kernel_rfl, by kernel_rfl, by kernel_rfl⟩
theorem has743 : Has E3 743 fn737 := ⟨by kernel_rfl, by kernel_rfl, by kernel_rfl⟩
def rc1 : Option (V × Mem × Nat) := callK E3 3000 (.f 217) [.sl 0 0 4 (some 4) 1] (m1 rplB) 1
def rd1 : V × Mem × Nat := rc1.getD (.u, .nil, 0)
def rc2 : Option (V × Mem × Nat) := callK E3 2999 (.f 320) [.ptr 2 0, .fn (.func 321) [.ptr 2 0] []] rd1.2.1 3
def rd2 : V × Mem × Nat := rc2.getD (.u, .nil, 0)
def cell3 : Option B → Option V
 | some (.cells cs _) => cs[3]?
 | _ => none
theorem some_getD {α : Type} {o : Option α} {x : α} (h : o.isSome = true) : o = some (o.getD x) := by cases o <;> simp at h ⊢
theorem rs1 : rc1.isSome = true := by kernel_rfl
theorem rv1 : rd1.1 = .ptr 2 0 := by kernel_rfl
theorem rn1 : rd1.2.2 = 3 := by kernel_rfl
theorem rs2 : rc2.isSome = true := by kernel_rfl
theorem rn2 : rd2.2.2 = 11 := by kernel_rfl
theorem rg2 : cell3 (rd2.2.1.get 2) = some (.ifc 632 (.ptr 4 0)) := by kernel_rfl
theorem rg4 : rd2.2.1.get 4 = some (.cells (rT 7 10 3 (some 2)) 631) := by kernel_rfl
theorem rg7 : rd2.2.1.get 7 = some (.ro (bytesL (bs [92, 110]))) := by kernel_rfl
theorem rg10 : rd2.2.1.get 10 = some (.ro (bytesL (bs [92, 92]))) := by kernel_rfl
theorem rg3 : rd2.2.1.get 3 = some (.cells [vs' [10], vs' [92]] 9) := by kernel_rfl
theorem cell3_at {o : Option B} {v : V} (h : cell3 o = some v) : ∃ cs T, o = some (.cells cs T) ∧ cutK (Nat.add 0 3) 1 cs = some [v] := by
 unfold cell3 at h
 split at h
 ·exact ⟨_, _, rfl, cutK_at h⟩
 ·cases h
theorem rplRuns : RplRuns E3 3000 2999 := by
 obtain ⟨cs, T, hg, hc⟩ := cell3_at rg2
 refine ⟨2, cs, T, 4, 7, 10, 3, some 2, rd2.1, rd1.2.1, 3, rd2.2.1, 11, ?_, ?_, hg, hc, by omega, ⟨rg4, rg7, rg10, rg3, by omega, by omega, by omega, by omega⟩, by omega, by omega, by omega, by omega, by omega⟩
 ·refine (some_getD (x := (.u, .nil, 0)) rs1).trans ?_
  show some rd1 = _
  rw [show rd1 = (rd1.1, rd1.2.1, rd1.2.2) from rfl, rv1, rn1]
 ·refine (some_getD (x := (.u, .nil, 0)) rs2).trans ?_
  show some rd2 = _
  rw [show rd2 = (rd2.1, rd2.2.1, rd2.2.2) from rfl, rn2]
section
variable [Gl]
theorem e3_ok (hp : PowOk) : EnvOk Tryz.prog E3 := EnvOk.addNat (e2_ok hp) (nsP165 nsC242)
theorem nsEscP (hp : PowOk) : NSpec Tryz.prog 140 tEscP := ns_tEscP (e3_ok hp) has140 has218 has743 rfl rplRuns
end
end Go.Fm
namespace Go.Fm
open Go.Proofs
def EL : Env' := envG [(5, tAwake), (24, tEsc), (30, tWhen), (31, tCut1), (33, tSumS), (35, tKSize), (36, tNameS), (38, tSumS), (47, tNameS), (63, tFromInt), (65, tForm), (77, tFromInt), (140, tEscP), (216, tSame)] [(8, tEv decO), (13, tEv decO), (339, tMkA 5)]
theorem tabL : Tab EL := by
 constructor
 all_goals first | exact ⟨by kernel_rfl, by kernel_rfl, by kernel_rfl⟩ | kernel_rfl
section
variable [Gl]
theorem nsAwake (hp : PowOk) : NSpec Tryz.prog 5 tAwake := ns_of_ms (k115 hp) fun vs v hF => by
 unfold tAwake at hF
 split at hF
 ·injection hF with hF; subst hF
  exact ⟨rfl, rfl, _, _, rfl⟩
 ·cases hF
theorem el_ok (hp : PowOk) : EnvOk Tryz.prog EL := envG_ok
 (fMc ⟨nsAwake hp, fMc ⟨nsP17, fMc ⟨nsP22, fMc ⟨nsP19, fMc ⟨nsP54 (nsP69 hp), fMc ⟨nsP131, fMc ⟨nsP133, fMc ⟨nsP59, fMc ⟨nsP28, fMc ⟨nsP44, fMc ⟨nsP46, fMc ⟨nsP69 hp, fMc ⟨nsEscP hp, fMc ⟨nsP208, fun q hq => by cases hq⟩⟩⟩⟩⟩⟩⟩⟩⟩⟩⟩⟩⟩⟩)
 (fMc ⟨msP20 (nsP69 hp) nsP126, fMc ⟨msP23, fMc ⟨msC328, fun q hq => by cases hq⟩⟩⟩)
end
theorem ent3 : ∀ args w, (callFunc 3 args).run Tryz.prog w = .ok (.enter 3 args) w := enters_of Tryz.func3 (by kernel_rfl) rfl
end Go.Fm
namespace Go.Fm
open Go.Proofs Go.RowKit
theorem law_calls_at {g : Nat} {t : TypeId} {cs : Array Value} {fr : Nat × Nat} (hg : Tryz.prog.globalNamed powN = some g) (hcs : cs = (Lib.pow10Tab.map fun z => Value.int .u64 z).toArray) {num : Int} {kd text log s : ByteArray} {names : List ByteArray} {nsl vsl : Value} {w : World} (hn : NamesW w nsl names) (hv : LenW vsl) (hw : w.heap[g]? = some (.cells cs t fr)) :
  Calls Tryz.prog 3 #[.agg #[.int .i64 num, .string kd, nsl, vsl, .string text], .string log, .string s] w fun e w' => e = .returned (.bool true) ∧ Below w.heap.size w w' := by
 letI : Gl := ⟨[(g, .cells cs t fr)]⟩
 refine law_mem (el_ok fun w2 h2 => ?_) tabL ent3 (fun q hq => ?_) hn hv (fun q hq arr T fr2 i x he hx => ?_)
 ·have e := h2 (g, .cells cs t fr) (List.mem_singleton.2 rfl)
  have e' : w2.heap[g]? = some (.cells cs t fr) := e
  show w2.var? Tryz.prog powN = _
  unfold World.var?
  rw [hg]
  simp [e', hcs]
 ·have : q = (g, .cells cs t fr) := List.mem_singleton.1 hq
  subst this
  exact hw
 ·have : q = (g, .cells cs t fr) := List.mem_singleton.1 hq
  subst this
  injection he with he1 _ _
  subst he1
  subst hcs
  simp at hx
end Go.Fm
namespace Go.Fm
open Go.Proofs Go.ChangeShapes Go.WideShapes
theorem slice_ok {P : Program} {W : World} {b0 : Nat} {t e : TypeId} {v : Value} (ht : P.underlying t = some (.slice e)) (h : Cell.okWide P W .any b0 t v) : v = .slice none 0 0 ∨ ∃ a len cap, v = .slice (some a) len cap ∧ a.spot = none ∧ len ≤ cap := by
 simp only [Cell.okWide, ht, Cell.ok] at h
 split at h
 all_goals first | (exact .inl rfl) | (exact .inr ⟨_, _, _, rfl, h.2.2.2.1, h.1⟩) | (simp_all; done) | skip
theorem rowcell_ok {P : Program} {W : World} {b0 : Nat} {t : TypeId} {cs : Array Value} {ts : List TypeId} (hts : P.cellTypes P.depth t = some ts) (h : Row.okWide P W .any b0 t cs) {i : Nat} {u : TypeId} {v : Value} (hi : i < ts.length) (hu : ts[i]? = some u) (hv : cs[i]? = some v) : Cell.okWide P W .any b0 u v := by
 obtain ⟨ts', h1, _, h3⟩ := h
 rw [hts] at h1; injection h1 with h1; subst h1
 obtain ⟨u', h4, h5⟩ := h3 i v hv
 rw [Nat.mod_eq_of_lt hi, hu] at h4
 injection h4 with h4; subst h4; exact h5
theorem open_event {H : Type} {enc : TypeId × Value → H} {W : World} {b0 : Nat} {v : Value} {d : DataW H} {ps : List MemPlace} (hval : Value.okWide Tryz.prog W .any b0 25 v) (hd : DataW.Trod enc Tryz.prog W 0 (fun _ => true) true 25 v d ps) :
  ∃ (num : Int) (kd text : ByteArray) (nsl vsl : Value) (names : List ByteArray), v = .agg #[.int .i64 num, .string kd, nsl, vsl, .string text] ∧ NamesW W nsl names ∧ LenW vsl := by
 have ht := Tryz.underlying25
 have hc5 : Tryz.prog.cellsOf 25 = 5 := by kernel_rfl
 have hts : Tryz.prog.cellTypes Tryz.prog.depth 25 = some [3, 9, 22, 23, 9] := by kernel_rfl
 have hc22 : Tryz.prog.cellsOf 22 = 1 := by kernel_rfl
 have hc9 : Tryz.prog.cellsOf 9 = 1 := by kernel_rfl
 simp only [Value.okWide, ht] at hval
 obtain ⟨cs, rfl, hsz, hrow⟩ := hval
 rw [hc5] at hsz
 obtain ⟨c0, c1, c2, c3, c4, rfl⟩ : ∃ c0 c1 c2 c3 c4, cs = #[c0, c1, c2, c3, c4] := by
  obtain ⟨l⟩ := cs
  match l, hsz with
  | [c0, c1, c2, c3, c4], _ => exact ⟨c0, c1, c2, c3, c4, rfl⟩
 have k0 := rowcell_ok hts hrow (i := 0) (by simp) rfl rfl
 have k1 := rowcell_ok hts hrow (i := 1) (by simp) rfl rfl
 have k2 := rowcell_ok hts hrow (i := 2) (by simp) rfl rfl
 have k3 := rowcell_ok hts hrow (i := 3) (by simp) rfl rfl
 have k4 := rowcell_ok hts hrow (i := 4) (by simp) rfl rfl
 obtain ⟨num, rfl⟩ : ∃ n, c0 = .int .i64 n := by
  simp only [Cell.okWide, Tryz.underlying3] at k0
  cases c0 <;> simp_all [Cell.ok, Tryz.underlying3]
 obtain ⟨kd, rfl⟩ : ∃ n, c1 = .string n := by
  simp only [Cell.okWide, Tryz.underlying9] at k1
  cases c1 <;> simp_all [Cell.ok, Tryz.underlying9]
 obtain ⟨text, rfl⟩ : ∃ n, c4 = .string n := by
  simp only [Cell.okWide, Tryz.underlying9] at k4
  cases c4 <;> simp_all [Cell.ok, Tryz.underlying9]
 obtain ⟨fuel, hf⟩ := hd
 obtain ⟨xs, n, _, _, _, hl, hx⟩ := DataW.trod_struct ht hf
 have h2 := hx 2 _ rfl
 simp only [hc22, Value.cells] at h2
 have hxl : 2 < xs.length := by rw [hl]; simp
 rw [List.getElem?_eq_getElem hxl] at h2
 have hn : ∃ names, NamesW W c2 names := by
  rcases open_strings Tryz.underlying22 Tryz.underlying9 hc9 h2 with ⟨hcs, _⟩ | ⟨a, len, cap, ss, hcs, _, hle, _, hz, _, hcell, _⟩
  ·have : c2 = .slice none 0 0 := by simpa [hc22] using hcs
   exact ⟨[], .inl ⟨this, rfl⟩⟩
  ·have hcc : c2 = .slice (some a) len cap := by simpa [hc22] using hcs
   have hss : ss.length = cap := by simpa using hz
   refine ⟨ss.take len, .inr ⟨a, cap, ?_, ?_, ?_, fun i x hi => ?_⟩⟩
   ·rw [List.length_take, hss, Nat.min_eq_left hle]; exact hcc
   ·rcases slice_ok Tryz.underlying22 k2 with h | ⟨a', _, _, h, hs, _⟩
    ·rw [hcc] at h; cases h
    ·rw [hcc] at h; injection h with h; injection h with h; subst h; exact hs
   ·rw [List.length_take, hss]; omega
   ·rw [List.getElem?_take] at hi
    split at hi
    ·have hlt := (gEs hi).1
     have := hcell i hlt
     rw [this, List.getD, hi]; rfl
    ·cases hi
 obtain ⟨names, hn⟩ := hn
 exact ⟨num, kd, text, c2, c3, names, rfl, hn, slice_ok Tryz.underlying23 k3⟩
end Go.Fm
end
