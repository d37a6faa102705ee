import Derived.Test.YtciondmibomehaaGreatDoorTA
set_option maxRecDepth 100000
set_option linter.unusedSectionVars false
set_option linter.unusedVariables false
set_option linter.unusedSimpArgs false
set_option linter.constructorNameAsVariable false
noncomputable section
namespace Go.Proofs.YtciondmibomehaaGreatDoor
open Go
def rE (os : Os) (tape : Tape) : Stepped := runN Tryz.prog 72 (Machine.entering Tryz.prog (World.unlaid Tryz.prog os) tape 770 ⟨#[], #[], []⟩)
def wE (os : Os) (tape : Tape) : World := match rE os tape with
 | .ended _ w => w
 | _ => World.unlaid Tryz.prog os
def nE : List String := (tl.filter fun x => x.2.handleName?.isNone).map (·.1)
theorem t7a (os : Os) (tape : Tape) : (match rE os tape with
 | .ended (.done _) _ => true
 | _ => false) = true := by kernel_rfl
theorem t7b (os : Os) (tape : Tape) : (DataW.laidRun Tryz.prog (wE os tape).memory 8 nE).map (·.1) = some (tl.filter fun x => x.2.handleName?.isNone) := by kernel_rfl
theorem t7c (os : Os) (tape : Tape) : (DataW.laidRun Tryz.prog (wE os tape).memory 8 nE).map (fun x => nodupBits 65 x.2 0) = some true := by kernel_rfl
theorem t7d (os : Os) (tape : Tape) : (DataW.laidRun Tryz.prog (wE os tape).memory 8 nE).map (fun x => laidRowsB Tryz.prog (wE os tape).memory x.2) = some true := by kernel_rfl
theorem t7e (os : Os) (tape : Tape) : ((tl.filter fun x => x.2.handleName?.isSome && x.2.funcsIn?.isNone).all (handleAtB Tryz.prog (wE os tape).memory)) = true := by kernel_rfl
theorem t7f (os : Os) (tape : Tape) : funcsRun Tryz.prog (wE os tape).memory 8 ((funcsListed tl).map (·.1)) = some ((funcsListed tl).map (·.2.funcsOut)) := by kernel_rfl
theorem t7 (os : Os) (tape : Tape) : doorLeaves Tryz.prog 72 8 65 tl os tape = some (tl.filter fun x => x.2.handleName?.isNone, (funcsListed tl).map (·.2.funcsOut)) := by
 have ha := t7a os tape
 have hb := t7b os tape
 have hc := t7c os tape
 have hd := t7d os tape
 have he := t7e os tape
 have hf := t7f os tape
 unfold doorLeaves
 rw [hv]
 have hr : runN Tryz.prog 72 (Machine.entering Tryz.prog (World.unlaid Tryz.prog os) tape 770 ⟨#[], #[], []⟩) = rE os tape := rfl
 rw [hr]
 unfold wE at hb hc hd he hf
 generalize rE os tape = r at ha hb hc hd he hf
 split
 ·simp only [Option.map_eq_some_iff] at hb hc hd
  obtain ⟨x, hx, h1⟩ := hb
  obtain ⟨y, hy, h2⟩ := hc
  obtain ⟨z, hz, h3⟩ := hd
  obtain rfl : x = y := Option.some.inj (hx.symm.trans hy)
  obtain rfl : x = z := Option.some.inj (hx.symm.trans hz)
  show (DataW.laidRun _ _ 8 nE).bind _ = _
  rw [hx, Option.bind_some, h2, h3, he, hf, ← h1]
  rfl
 ·rename_i hn
  split at ha
  ·rename_i v w
   exact absurd rfl (hn v w)
  ·cases ha
end Go.Proofs.YtciondmibomehaaGreatDoor
end
