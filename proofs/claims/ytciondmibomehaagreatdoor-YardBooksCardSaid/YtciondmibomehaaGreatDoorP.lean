/-
  PROVED: YardBooks: for every event, log and text, the law's function returns true (Encode, Append and Decode return the results or the errors of the reference), and the arguments read as they did; the card of the given row, whose listed variables are tied to the program's text.
  CONDITIONS: none beyond the given statement's own.
  (The other files: an abstract machine for the model's programs, proved sound; an evaluator of it for the kernel; runs of the program's functions; the rows of awake; the row's closed facts in pieces. Printed in part by programs of ours.)
-/
import Derived.Test.YtciondmibomehaaGreatDoorT
import Derived.Test.YtciondmibomehaaGreatDoorJ
import Derived.Test.YtciondmibomehaaGreatDoorKE
import Derived.ProofKit
import Derived.OpenShut
import Derived.LaidMore
import Derived.Lay
import Derived.SevenTiedAt
import Derived.Stop.Joined
import Derived.Lib.LaidU8
import Derived.Carry
import Derived.Test.YtciondmibomehaaGreatDoorCards
import Derived.KernelRfl
set_option maxRecDepth 100000
set_option linter.unusedSectionVars false
set_option linter.unusedVariables false
set_option linter.unusedSimpArgs false
set_option linter.constructorNameAsVariable false
noncomputable section
namespace Go.Proofs.Bk
open Go Go.Fm Go.RowKit Go.ChangeShapes Go.WideShapes Go.ChangeAt
open Go.ChangeMaps (open_string shut_string)
theorem lt25 : 25 < Tryz.prog.types.size := of_decide_eq_true (by kernel_rfl)
theorem row_core {H : Type} {enc : TypeId × Value → H} {s : ChangeSpec} (hl : laidOutB Tryz.prog = true) (hsv : s.vars = []) (hfn : ∀ d0 d1 d2, s.fn H [d0, d1, d2] = { results := [.lit (.bool true)], args := [d0, d1, d2] }) {apart : Bool} {W : World} {base : Nat} {args : Array Value} {ds gs : List (DataW H)} {before : List MemPlace}
  (hlaw : ∀ {num : Int} {kd text log x : ByteArray} {names : List ByteArray} {nsl vsl : Value}, NamesW W nsl names → LenW vsl → Calls Tryz.prog 3 #[.agg #[.int .i64 num, .string kd, nsl, vsl, .string text], .string log, .string x] W fun e w' => e = .returned (.bool true) ∧ Below W.heap.size W w')
  (hval : ∀ (j : Nat) t v, Tryz.f3.params[j]? = some t → args[j]? = some v → Value.okWide Tryz.prog W .any base t v) (hW : DataW.Whole enc Tryz.prog Tryz.f3.params.toList s.vars apart W args.toList ds gs before) :
  Calls Tryz.prog 3 args W fun e W' => ∃ v, e = .returned v ∧ s.post enc Tryz.prog Tryz.f3 apart true false false W args v W' := by
 have hW' := hW
 obtain ⟨p, q, hA0, hV, rfl, _, _⟩ := hW
 have hA : DataW.TrodAll enc Tryz.prog W 0 (fun _ => true) true Tryz.f3.params.toList args.toList ds p := hA0
 rw [Tryz.params3] at hA hval
 obtain ⟨v0, v1, v2, d0, d1, d2, p0, p1, p2, rfl, rfl, rfl, h0, h1, h2⟩ := trodAll_three hA
 rw [hsv] at hV
 obtain ⟨rfl, rfl⟩ := trodVars_none hV
 obtain ⟨num, kd, text, nsl, vsl, names, rfl, hn, hv⟩ := open_event (hval 0 25 v0 rfl rfl) h0
 obtain ⟨log, rfl, rfl, rfl, wl⟩ := open_string Tryz.underlying9 (hval 1 9 v1 rfl rfl) h1
 obtain ⟨x, rfl, rfl, rfl, ws⟩ := open_string Tryz.underlying9 (hval 2 9 v2 rfl rfl) h2
 simp only [List.append_nil] at hW'
 have hlt : ∀ y ∈ p0, y.block < W.heap.size := fun y hy => by simpa using hW'.lt y hy
 refine (hlaw hn hv).mono fun e W' ⟨he, hb⟩ => ?_
 subst he
 refine ⟨_, rfl, _, _, _, [], p0 ++ ([] ++ []), [], hW', ?_, ?_, ?_, Below.frame hb _, fun h => by cases h⟩
 ·rw [List.append_nil, hfn]
  exact trodAll_mk1 (shut_bool Tryz.underlying4 _)
 ·rw [List.append_nil, hfn]
  exact trodAll_mk3 (Below.trod hl read25 lt25 h0 hb hlt) (shut_string Tryz.underlying9 wl) (shut_string Tryz.underlying9 ws)
 ·rw [hsv, List.append_nil, hfn]
  rfl
end Go.Proofs.Bk
namespace Go.Fm
open Go.Proofs Go.RowKit
theorem pow_block {W : World} {name : String} {zs : List Int} {d : DataW Unit} {g : Nat} {t e : TypeId} {n : Nat} (hg : Tryz.prog.globalNamed name = some g) (hty : (Tryz.prog.globals[g]?).map (·.type) = some t) (ht : Tryz.prog.underlying t = some (.array n e)) (he : Tryz.prog.underlying e = some (.int .u64)) (hce : Tryz.prog.cellsOf e = 1) (hct : Tryz.prog.cellsOf t = n)
  (hd : d = Lib.tabData .u64 zs) (h : Lib.VarReads Tryz.prog W name d) : ∃ (ty : TypeId) (fr : Nat × Nat), W.heap[g]? = some (.cells (zs.map fun z => Value.int .u64 z).toArray ty fr) := by
 obtain ⟨g', t', cs, fuel, p, hg', ht', hvar, htr⟩ := h
 obtain rfl := Option.some.inj (hg.symm.trans hg')
 obtain rfl := Option.some.inj (hty.symm.trans ht')
 subst hd
 have hc := Lib.cells_of_tab ht he hce hct htr
 unfold World.var? at hvar
 rw [hg] at hvar
 simp only [Option.bind_some] at hvar
 split at hvar
 ·rename_i cs' ty fr hh
  injection hvar with hvar
  subst hvar
  refine ⟨ty, fr, ?_⟩
  rw [hh, ← hc]
 ·cases hvar
end Go.Fm
namespace Go.Proofs.YtciondmibomehaaGreatDoor
open Go Go.Fm
abbrev L_ : List (String × DataW Unit) := Rows.yardBooksRow.laid
abbrev a0 : Array Value := #[.agg #[.int .i64 0, .string ⟨#[]⟩, .slice none 0 0, .slice none 0 0, .string ⟨#[]⟩], .string ⟨#[]⟩, .string ⟨#[]⟩]
abbrev W0 (os : Os) : World := World.laidAll Tryz.prog os L_
theorem zip1 (os : Os) : (((W0 os).forCall (fun _ _ => 0) ⟨#[], a0, []⟩).variablesZipB Tryz.prog) = true := by kernel_rfl
theorem zip2 (os : Os) : (((W0 os).forCall (fun _ _ => 0) ⟨#[], a0, []⟩).heap.toList.drop Tryz.prog.globals.size).take ((begin Tryz.prog (fun _ _ => 0) default).world.heap.size - Tryz.prog.globals.size) =
   (begin Tryz.prog (fun _ _ => 0) default).world.heap.toList.drop Tryz.prog.globals.size := by kernel_rfl
end Go.Proofs.YtciondmibomehaaGreatDoor
namespace Go.Proofs.YtciondmibomehaaGreatDoor
open Go Go.Fm
theorem okw (os : Os) : Input.okWideB Tryz.prog ((W0 os).forCall (fun _ _ => 0) ⟨#[], a0, []⟩) 3 ⟨#[], a0, []⟩ = true := by kernel_rfl
theorem prB (os : Os) (H : Type) (enc : TypeId × Value → H) : Rows.yardBooksSpec.preB enc Tryz.prog Tryz.f3 Rows.yardBooksRow.domain false ((W0 os).forCall (fun _ _ => 0) ⟨#[], a0, []⟩).memory a0 8 = true := by kernel_rfl
theorem szB (os : Os) (H : Type) (enc : TypeId × Value → H) : Rows.yardBooksSpec.sizedB enc Tryz.prog Tryz.f3 false ((W0 os).forCall (fun _ _ => 0) ⟨#[], a0, []⟩).memory a0 8 = true := by kernel_rfl
theorem noH : (L_.filter fun x => x.2.handleName?.isSome) = [] := by kernel_rfl
theorem lf (os : Os) : (World.holding Tryz.prog os ⟨#[], #[], []⟩).layFits Tryz.prog L_ [] = true := by kernel_rfl
theorem li (os : Os) : (World.holding Tryz.prog os ⟨#[], #[], []⟩).layIfaces Tryz.prog L_ (World.laidAll Tryz.prog os L_) = true := by kernel_rfl
theorem own : ownKnob Tryz.prog.godebug = none := by kernel_rfl
theorem noInit : Tryz.prog.inits.idxOf? 3 = none := by kernel_rfl
end Go.Proofs.YtciondmibomehaaGreatDoor
namespace Go.Proofs.YtciondmibomehaaGreatDoor
open Go Go.Fm Go.Proofs.Bk Go.RowKit Go.ChangeShapes Go.WideShapes Go.ChangeAt Go.WideMaps Go.WideElems
open Go.ChangeMaps (open_string shut_string)
theorem noH2 : (L_.all fun x => x.2.handleName?.isNone) = true := by kernel_rfl
theorem gPow : Tryz.prog.globalNamed powN = some 5 := by kernel_rfl
theorem tPow : (Tryz.prog.globals[5]?).map (·.type) = some 539 := by kernel_rfl
theorem cPow : Tryz.prog.cellsOf 249 = 1 := by kernel_rfl
theorem cPow2 : Tryz.prog.cellsOf 539 = 20 := by kernel_rfl
theorem law_at {num : Int} {kd text log s : ByteArray} {names : List ByteArray} {nsl vsl : Value} {W : World} (h : laidMetH Tryz.prog L_ W) (hn : NamesW W nsl names) (hv : LenW vsl) : Calls Tryz.prog 3 #[.agg #[.int .i64 num, .string kd, nsl, vsl, .string text], .string log, .string s] W fun e w' => e = .returned (.bool true) ∧ Below W.heap.size W w' := by
 rw [MakeChecks.laidMetH_plain _ _ _ noH2] at h
 have hr := Lib.laidMet.reads h (.tail _ (.tail _ (.head _)))
 obtain ⟨ty, fr, hw⟩ := pow_block (by kernel_rfl) tPow Tryz.underlying539 Tryz.underlying249 cPow cPow2 (zs := Lib.pow10Tab) rfl hr
 exact law_calls_at gPow rfl hn hv hw
theorem lifted (os : Os) (started : os.Started) (H : Type) (enc : TypeId × Value → H) :
  ReturnsInHanded {} Tryz.checked os 3 .any (fun w args => (Rows.yardBooksSpec.pre enc Tryz.prog Tryz.f3 Rows.yardBooksRow.domain false w args ∧ laidMetH Tryz.prog L_ w) ∧ sizedMet enc Tryz.prog Tryz.f3 (OpenSpec.ofChange Rows.yardBooksSpec) false w args)
   (Rows.yardBooksSpec.post enc Tryz.prog Tryz.f3 false true false false) := by
 refine returnsInHanded_of_change_and (C := Tryz.checked) (X := fun w _ => laidMetH Tryz.prog L_ w) (fun _ _ _ hh h => h.of_heap hh) own started noInit Tryz.func3
  (ChangeSpec.witness_shaped (enc := enc) (C := Tryz.checked) (os := os) (X := fun w _ => laidMetH Tryz.prog L_ w) false (W0 os) a0 8 (World.laidAll_os _ _ _)
   (World.shaped_of_ZipB (zip1 os) (zip2 os)) (okw os) (prB os H enc) (szB os H enc)
   (by rw [MakeChecks.laidMetH_plain _ _ _ noH2]; exact laidMet_laidAll _ (lf os) (li os))) ?_
 intro W base args ds gs before hval0 hW hc _ hL _
 exact row_core j2 rfl (fun _ _ _ => rfl) (fun hn hv => law_at hL hn hv) hval0 hW
end Go.Proofs.YtciondmibomehaaGreatDoor
namespace Go.Proofs.YtciondmibomehaaGreatDoor
open Go Go.Fm Go.Proofs.Bk
theorem closed : joinedFacts Tryz.prog 3 Tryz.f3 Rows.yardBooksSpec Rows.yardBooksRow = true :=
 and2 (and2 (and2 (and2 (and2 (and2 (and2 (and2 (and2 (and2 (and2 (and2 (and2 (and2 (and2 (and2 (and2 (and2 (and2 (and2 (and2 (and2 (and2 (and2 (and2 (and2 (and2 (and2 (and2 (and2 (and2 j1 j2) j3) j4) j5) j6) j7) j8) j9)
  (by rw [j10]; exact beq_self_eq_true _)) (by rw [j11]; rfl)) (by rw [j12]; rfl)) (by rw [j13]; exact beq_self_eq_true _)) j14) j15) j16) j17) j17b) j18) j19) j20) j21) j22) j23) j23b) j24) j24b) j24c) j25) j26) j27) j28
theorem fn3_ : Tryz.prog.funcNamed Rows.yardBooksRow.func = some 3 := by kernel_rfl
theorem holds : Rows.YardBooksSaid :=
 OpenClaim.holds_of_wide 3 Tryz.f3 rfl rfl rfl rfl rfl rfl rfl ⟨rfl, rfl, rfl, rfl, rfl⟩ rfl rfl rfl rfl rfl fn3_ Tryz.func3 closed
  (of_decide_eq_true (by kernel_rfl)) (by unfold Func.isWrapper; first | (rw [if_pos (by decide +kernel)]; kernel_rfl) | (rw [if_neg (by decide +kernel)]; exact ⟨rfl, rfl⟩))
  (fun os started H enc _ => lifted os started H enc)
end Go.Proofs.YtciondmibomehaaGreatDoor
namespace Go.Proofs.YtciondmibomehaaGreatDoor
open Go
theorem c1 : Rows.yardBooksRow.wfByText (OpenSpec.ofChange Rows.yardBooksSpec) = true := by kernel_rfl
theorem c2 : Tryz.prog.mainIs = some ((true, "4ac591a16b8c53479631761d3abf339e55f4a9d87829cc24a7ff92ca5521474c").1, (true, "4ac591a16b8c53479631761d3abf339e55f4a9d87829cc24a7ff92ca5521474c").2.toList) := by kernel_rfl
theorem c4 : true = Tryz.prog.looks [] := by kernel_rfl
theorem c5 : ([25, 9, 9].all fun u => !Tryz.prog.wantsStandIn u) = true := by kernel_rfl
end Go.Proofs.YtciondmibomehaaGreatDoor
namespace Go.Proofs.YtciondmibomehaaGreatDoor
open Go Go.Fm
theorem goes_of {P : Program} {f : FuncId} (h : P.funcs.toList.any Func.goes = false) : P.goes f = false := by
 have h2 : P.funcs.any Func.goes = false := by simpa using h
 have h1 : ((P.closure f).any fun g => (P.funcs[g]?).any Func.goes) = false := by
  rw [List.any_eq_false]
  intro g _
  cases hg : P.funcs[g]? with
  | none => simp
  | some fn =>
   have hm : fn ∈ P.funcs.toList := Array.mem_toList_iff.2 (Array.mem_of_getElem? hg)
   have := List.any_eq_false.1 h fn hm
   simpa using this
 unfold Program.goes
 rw [h1, h2, Bool.and_false]
 rfl
theorem goesAt_of {P : Program} {func : String} {f : FuncId} (h1 : P.funcNamed func = some f) (h2 : P.goes f = false) : P.goesAt .entering func = false := by
 unfold Program.goesAt Program.goesFrom
 rw [h1]
 simp [h2]
theorem ga : Tryz.prog.funcs.toList.any Func.goes = false := by kernel_rfl
theorem c6 : false = Rows.yardBooksRow.goesBy Tryz.prog := (goesAt_of fn3_ (goes_of ga)).symm
end Go.Proofs.YtciondmibomehaaGreatDoor
namespace Go.Proofs.YtciondmibomehaaGreatDoor
open Go Go.Fm Go.Proofs.Bk
theorem card_holds : Rows.YardBooksCardSaid :=
 Claim7.holds_tied_plain_at .later [] [.sentinel, .sentinel, .data, .data, .data, .pinned, .data] true (true, "4ac591a16b8c53479631761d3abf339e55f4a9d87829cc24a7ff92ca5521474c") true holds (fun _ h => by cases h) c1 (fun _ h => by cases h) row_tie rfl ⟨rfl, rfl⟩ c2 rfl
  (fun f fn hf hfn => by
   obtain rfl : f = 3 := Option.some.inj (fn3_.symm.trans hf) |>.symm
   obtain rfl : fn = Tryz.f3 := (Option.some.inj (Tryz.func3.symm.trans hfn)).symm
   exact ⟨c4, fun j t ht => by
    rw [Tryz.params3] at ht
    have hm : t ∈ [25, 9, 9] := by simpa using Array.mem_of_getElem? ht
    exact (show Tryz.prog.wantsStandIn t = false by simpa using List.all_eq_true.1 c5 t hm)⟩)
  c6
end Go.Proofs.YtciondmibomehaaGreatDoor
end
