import Derived.Test.YtciondmibomehaaGreatDoorGB
set_option maxRecDepth 100000
set_option linter.unusedSectionVars false
set_option linter.unusedVariables false
set_option linter.unusedSimpArgs false
set_option linter.constructorNameAsVariable false
noncomputable section
namespace Go.Fm
theorem plainS_step {c : UInt8} {r : Bs} (h1 : c ≠ 10) (h2 : c ≠ 92) : plainS (c :: r) = (plainS r).map (c :: ·) := by
 cases r with
 | nil => simp [plainS, h1, h2]
 | cons d r => simp [plainS, h1, h2]
theorem plainS_free : ∀ {a : Bs}, (10 : UInt8) ∉ a → (92 : UInt8) ∉ a → plainS a = some a
 | [], _, _ => by simp [plainS]
 | c :: r, h1, h2 => by
  rw [plainS_step (fun e => h1 (e ▸ List.mem_cons_self ..)) (fun e => h2 (e ▸ List.mem_cons_self ..)), plainS_free (fun e => h1 (List.mem_cons_of_mem _ e)) (fun e => h2 (List.mem_cons_of_mem _ e))]
  rfl
theorem plainS_app : ∀ {a : Bs} (r : Bs), (10 : UInt8) ∉ a → (92 : UInt8) ∉ a → plainS (a ++ r) = (plainS r).map (a ++ ·)
 | [], r, _, _ => by simp
 | c :: a, r, h1, h2 => by
  show plainS (c :: (a ++ r)) = _
  rw [plainS_step (fun e => h1 (e ▸ List.mem_cons_self ..)) (fun e => h2 (e ▸ List.mem_cons_self ..)), plainS_app r (fun e => h1 (List.mem_cons_of_mem _ e)) (fun e => h2 (List.mem_cons_of_mem _ e)), Option.map_map]
  rfl
theorem plainS_end : plainS [92] = none := by decide
theorem plainS_b {r : Bs} : plainS (92 :: 92 :: r) = (plainS r).map (92 :: ·) := by simp [plainS]
theorem plainS_n {r : Bs} : plainS (92 :: 110 :: r) = (plainS r).map (10 :: ·) := by simp [plainS]
theorem plainS_x {d : UInt8} {r : Bs} (h1 : d ≠ 92) (h2 : d ≠ 110) : plainS (92 :: d :: r) = none := by simp [plainS, h1, h2]
theorem plainS_nl : ∀ (n : Nat) {l : Bs}, l.length ≤ n → (10 : UInt8) ∈ l → plainS l = none
 | 0, [], _, h => by cases h
 | n + 1, [], _, h => by cases h
 | n + 1, [c], hn, h => by
  have e : (10 : UInt8) = c := by simpa using h
  simp [plainS, ← e]
 | n + 1, c :: d :: r, hn, h => by
  have hn' : r.length + 1 + 1 ≤ n + 1 := hn
  by_cases h1 : c = 10
  ·simp [plainS, h1]
  by_cases h2 : c = 92
  ·subst h2
   have hm : (10 : UInt8) ∈ d :: r := by
    cases h with
    | tail _ h => exact h
   by_cases h3 : d = 92
   ·subst h3
    have hm' : (10 : UInt8) ∈ r := by
     cases hm with
     | tail _ h => exact h
    rw [plainS_b, plainS_nl n (by omega) hm']; rfl
   by_cases h4 : d = 110
   ·subst h4
    have hm' : (10 : UInt8) ∈ r := by
     cases hm with
     | tail _ h => exact h
    rw [plainS_n, plainS_nl n (by omega) hm']; rfl
   exact plainS_x h3 h4
  ·have hm : (10 : UInt8) ∈ d :: r := by
    cases h with
    | head => exact absurd rfl h1
    | tail _ h => exact h
   rw [plainS_step h1 h2, plainS_nl n (by show r.length + 1 ≤ n; omega) hm]; rfl
theorem plainS_cut_no {l : Bs} (h : (10 : UInt8) ∉ l) (hm : (cutS 92 l).2.2 = false) : plainS l = some l ∧ (cutS 92 l).1 = l := by
 have hc : (92 : UInt8) ∉ l ∧ (cutS 92 l).1 = l := by
  induction l with
  | nil => simp [cutS]
  | cons a r ih =>
   unfold cutS at hm ⊢
   by_cases e : a = 92
   ·simp [e] at hm
   ·rw [if_neg e] at hm ⊢
    obtain ⟨i1, i2⟩ := ih (fun q => h (List.mem_cons_of_mem _ q)) hm
    refine ⟨?_, by simp [i2]⟩
    intro q
    cases q with
    | head => exact e rfl
    | tail _ q => exact i1 q
 exact ⟨plainS_free h hc.1, hc.2⟩
theorem plainS_cut {l : Bs} (h : (10 : UInt8) ∉ l) (hm : (cutS 92 l).2.2 = true) : plainS l = (plainS (92 :: (cutS 92 l).2.1)).map ((cutS 92 l).1 ++ ·) ∧ (10 : UInt8) ∉ (cutS 92 l).2.1 ∧ (cutS 92 l).1.length + 1 + (cutS 92 l).2.1.length = l.length := by
 obtain ⟨h1, h2⟩ := cutS_found hm
 have ha : (10 : UInt8) ∉ (cutS 92 l).1 := fun q => h (by rw [h1]; exact List.mem_append_left _ q)
 have hr : (10 : UInt8) ∉ (cutS 92 l).2.1 := fun q => h (by rw [h1]; exact List.mem_append_right _ (List.mem_cons_of_mem _ q))
 refine ⟨?_, hr, ?_⟩
 ·conv => lhs; rw [h1]
  exact plainS_app _ ha h2
 ·have e := congrArg List.length h1
  simp only [List.length_append, List.length_cons] at e
  omega
end Go.Fm
namespace Go.Fm
section
variable [Ctx] {P : Program} {E : Env'}
theorem ns_sT (hE : EnvOk P E) {f : FuncId} {g : Bs → V} (h : ∀ l : Bs, l.length ≤ 100000 → pureV (g l) = true ∧ Gives E f [vs' l] (g l)) : NSpec P f (sT g) :=
 nspec_of_gives hE fun vs v hF => by
  obtain ⟨l, rfl, hl, rfl⟩ := sT_inv hF
  obtain ⟨h1, h2⟩ := h l hl
  exact ⟨rfl, h1, h2⟩
theorem ns_tCut (hE : EnvOk P E) (h : Has E 39 fn57) : NSpec P 39 tCut := ns_sT hE fun l hl => ⟨rfl, g57 h hl⟩
theorem ns_tDig8 (hE : EnvOk P E) (h : Has E 80 fn130) : NSpec P 80 tDig8 :=
 nspec_of_gives hE fun vs v hF => by
  unfold tDig8 at hF
  split at hF
  ·injection hF with hF; subst hF; exact ⟨rfl, rfl, g130 h _⟩
  ·cases hF
theorem ns_tDig32 (hE : EnvOk P E) (h : Has E 75 fn125) : NSpec P 75 tDig32 :=
 nspec_of_gives hE fun vs v hF => by
  unfold tDig32 at hF
  split at hF
  ·injection hF with hF; subst hF; exact ⟨rfl, rfl, g125 h _⟩
  ·cases hF
theorem ns_tIsInt (hE : EnvOk P E) (h : Has E 40 fn58) (h130 : E.nat.get 80 = some tDig8) : NSpec P 40 tIsInt := ns_sT hE fun l hl => ⟨rfl, g58 h h130 hl⟩
theorem ns_tInteger (hE : EnvOk P E) (h : Has E 42 fn61) : NSpec P 42 tInteger :=
 nspec_of_gives hE fun vs v hF => by
  unfold tInteger at hF
  split at hF
  ·rename_i s
   split at hF
   ·rename_i hs
    injection hF with hF; subst hF
    have e := g61 h hs.1 hs.2
    refine ⟨rfl, rfl, ?_⟩
    exact e
   ·cases hF
  ·cases hF
theorem ns_tDec (hE : EnvOk P E) (h : Has E 198 fn188) : NSpec P 198 tDec :=
 nspec_of_gives hE fun vs v hF => by
  unfold tDec at hF
  split at hF
  ·rename_i x y
   split at hF
   ·rename_i hs
    injection hF with hF; subst hF
    obtain ⟨h1, h2, rfl⟩ := hs
    obtain ⟨a, rfl⟩ := Int.eq_ofNat_of_zero_le h1
    exact ⟨rfl, rfl, g188 h (by omega)⟩
   ·cases hF
  ·cases hF
theorem ns_tFromInt (hE : EnvOk P E) (h : Has E 63 fn44) (h102 : Has E 120 fn102) (h189 : Has E 199 fn189) (h279 : Has E 292 fn279) (h101 : Has E 119 fn101) (h188 : E.nat.get 198 = some tDec) : NSpec P 63 tFromInt :=
 nspec_of_gives hE fun vs v hF => by
  unfold tFromInt at hF
  split at hF
  ·rename_i x
   split at hF
   ·rename_i hs
    injection hF with hF; subst hF
    obtain ⟨h1, h2⟩ := hs
    obtain ⟨a, rfl⟩ := Int.eq_ofNat_of_zero_le h1
    exact ⟨rfl, rfl, g44 h h102 h189 h279 h101 h188 (by omega)⟩
   ·cases hF
  ·cases hF
theorem ns_tSumS (hE : EnvOk P E) (h : Has E 38 fn59) (h44 : E.nat.get 63 = some tFromInt) : NSpec P 38 tSumS := ns_sT hE fun l hl => ⟨rfl, g59 h h44 hl⟩
theorem ns_tSumP (hE : EnvOk P E) (h : Has E 33 fn54) (h69 : E.nat.get 77 = some tFromInt) : NSpec P 33 tSumS := ns_sT hE fun l hl => ⟨rfl, g54 h h69 hl⟩
theorem ns_tKSize (hE : EnvOk P E) (h : Has E 35 fn131) : NSpec P 35 tKSize := ns_sT hE fun l hl => ⟨by unfold sizeV; split <;> rfl, g131 h l⟩
theorem ns_tNameR (hE : EnvOk P E) (h : Has E 36 fn133) : NSpec P 36 tNameS := ns_sT hE fun l hl => ⟨rfl, g133 h hl⟩
theorem ns_tNameP (hE : EnvOk P E) (h : Has E 47 fn28) : NSpec P 47 tNameS := ns_sT hE fun l hl => ⟨rfl, g28 h hl⟩
theorem ns_tPlainR (hE : EnvOk P E) (h : Has E 81 fn132) : NSpec P 81 tPlainS := ns_sT hE fun l hl => ⟨by unfold plnV; split <;> rfl, g132 h hl⟩
theorem ns_tWhen (hE : EnvOk P E) (h : Has E 30 fn22) : NSpec P 30 tWhen :=
 nspec_of_gives hE fun vs v hF => by
  unfold tWhen at hF
  split at hF
  ·injection hF with hF; subst hF; exact ⟨rfl, rfl, g22 h _ _⟩
  ·cases hF
theorem s1T_inv {g : UInt8 → Bs → V} {vs : List V} {v : V} (h : s1T g vs = some v) : ∃ (l : Bs) (c : UInt8), vs = [vs' l, vs' [c]] ∧ l.length ≤ 100000 ∧ g c l = v := by
 unfold s1T at h
 split at h
 ·rename_i s p
  split at h
  ·rename_i c hc
   split at h
   ·rename_i hl
    injection h with h
    refine ⟨s.data.toList, c, ?_, hl, h⟩
    have e1 : vs' s.data.toList = V.str s := rfl
    have e2 : vs' [c] = V.str p := by rw [← hc]
    rw [e1, e2]
   ·cases h
  ·cases h
 ·cases h
theorem ns_s1T (hE : EnvOk P E) {f : FuncId} {g : UInt8 → Bs → V} (h : ∀ (l : Bs) (c : UInt8), l.length ≤ 100000 → pureV (g c l) = true ∧ Gives E f [vs' l, vs' [c]] (g c l)) : NSpec P f (s1T g) :=
 nspec_of_gives hE fun vs v hF => by
  obtain ⟨l, c, rfl, hl, rfl⟩ := s1T_inv hF
  obtain ⟨h1, h2⟩ := h l c hl
  exact ⟨rfl, h1, h2⟩
theorem ns_tIdx1 (hE : EnvOk P E) (h : Has E 141 fn123) (h209 : Has E 219 fn209) (h309 : E.nat.get 322 = some tIndexByte) : NSpec P 141 tIdx1 := ns_s1T hE fun l c hl => ⟨rfl, g123 h h209 h309 l c⟩
theorem ns_tCutL (hE : EnvOk P E) (h : Has E 73 fn52) (h123 : E.nat.get 141 = some tIdx1) : NSpec P 73 tCut1 := ns_s1T hE fun l c hl => ⟨rfl, g52 h h123 hl c⟩
theorem ns_tCut1 (hE : EnvOk P E) (h : Has E 31 fn19) (h52 : E.nat.get 73 = some tCut1) : NSpec P 31 tCut1 := ns_s1T hE fun l c hl => ⟨rfl, g19 h h52 hl c⟩
theorem ns_tIndex (hE : EnvOk P E) (h : Has E 121 fn103) (h123 : E.nat.get 141 = some tIdx1) : NSpec P 121 tIdx1 := ns_s1T hE fun l c hl => ⟨rfl, g103 h h123 hl c⟩
theorem ns_tHas1 (hE : EnvOk P E) (h : Has E 64 fn45) (h103 : E.nat.get 121 = some tIdx1) : NSpec P 64 tHas1 := ns_s1T hE fun l c hl => ⟨rfl, g45 h h103 hl c⟩
theorem ns_tPreL (hE : EnvOk P E) (h : Has E 229 fn222) : NSpec P 229 tPre1 := ns_s1T hE fun l c hl => ⟨rfl, g222 h l c⟩
theorem ns_tPre1 (hE : EnvOk P E) (h : Has E 145 fn151) (h222 : E.nat.get 229 = some tPre1) : NSpec P 145 tPre1 := ns_s1T hE fun l c hl => ⟨rfl, g151 h h222 hl c⟩
theorem ns_tForm (hE : EnvOk P E) (h : Has E 65 fn46) : NSpec P 65 tForm := ns_sT hE fun l hl => ⟨by unfold formV; split <;> rfl, g46 h l⟩
theorem ms_parR (hE : EnvOk P E) (h : Has E 41 fn60) (h57 : E.nat.get 39 = some tCut) (h131 : E.nat.get 35 = some tKSize) (h132 : E.nat.get 81 = some tPlainS) : MSpec P 41 (tEv (parO parseR)) := ms_ev hE (parO_plain parseR) fun l hl => g60 h h57 h131 h132 hl
theorem ms_parP (hE : EnvOk P E) (h : Has E 34 fn55) (h127 : Has E 78 fn127) (h19 : E.nat.get 31 = some tCut1) (h46 : E.nat.get 65 = some tForm) (h128 : E.nat.get 79 = some tPlainS) : MSpec P 34 (tEv (parO parseP)) := ms_ev hE (parO_plain parseP) fun l hl => g55 h h127 h19 h46 h128 hl
theorem ms_decR (hE : EnvOk P E) (h : Has E 13 fn23) (h57 : E.nat.get 39 = some tCut) (h58 : E.nat.get 40 = some tIsInt) (h59 : E.nat.get 38 = some tSumS) (h61 : E.nat.get 42 = some tInteger) (n60 : E.nat.get 41 = none) (h60 : E.mnat.get 41 = some (tEv (parO parseR))) (n62 : E.nat.get 9 = none) (h62 : E.mnat.get 9 = some tChk) : MSpec P 13 (tEv decO) := ms_ev hE decO_plain fun l hl => g23 h h57 h58 h59 h61 n60 h60 n62 h62 hl
end
end Go.Fm
set_option maxHeartbeats 8000000
namespace Go.Fm
def tIntP : List V → Option V := sT intV
theorem tIntP_t {l : Bs} (q : isIntS l = true) (hl : l.length ≤ 100000) : tIntP [vs' l] = some (.tup [vi (intS l), .bool true]) := by
 unfold tIntP; rw [sT_at hl]; unfold intV; rw [if_pos q]
theorem tIntP_f {l : Bs} (q : isIntS l = false) (hl : l.length ≤ 100000) : tIntP [vs' l] = some (.tup [vi 0, .bool false]) := by
 unfold tIntP; rw [sT_at hl]; unfold intV; rw [if_neg (by simp [q])]
theorem parseP_ok (line : Bs) : parseS line = if (parseP line).2 = true then some (parseP line).1 else none := by
 unfold parseP; cases parseS line <;> simp
theorem parseP_true {l : Bs} {ev : Ev'} (h : parseP l = (ev, true)) (hl : l.length ≤ 100000) (num : Nat) (hn : num ≤ 1000000000) : ChkOk num ev.kind ev.names ev.text := by
 have e := parseP_ok l
 rw [h, if_pos rfl] at e
 have e2 := parseR_ok l
 rw [e] at e2
 split at e2
 ·rename_i q
  injection e2 with e2
  exact parseR_true (show parseR l = (ev, true) from Prod.ext e2.symm q) hl num hn
 ·cases e2
section
variable {E : Env'} {Q : V → Mem → Nat → Prop}
attribute [local irreducible] Ok callK loopK lenL nthL takeL dropL eqBs
theorem g20 (h : Has E 8 fn20) (h19 : E.nat.get 31 = some tCut1) (h53 : E.nat.get 32 = some tIntP) (h54 : E.nat.get 33 = some tSumS) (n55 : E.nat.get 34 = none) (h55 : E.mnat.get 34 = some (tEv (parO parseP))) (n56 : E.nat.get 27 = none) (h56 : E.mnat.get 27 = some tChk) {l : Bs} (hl : l.length ≤ 100000) : ∃ fu, Ok (fun v m _ => ORes (decO l) v m) (callK E fu (.f 8) [vs' l] .nil 0) := by
 obtain ⟨F, F1, h1⟩ : ∃ F F1, F = F1 + 1 := ⟨1, 0, rfl⟩
 refine h.gives3 F (show 1 ≤ 77 by omega) ?_
 obtain ⟨⟨a, r, b⟩, hk⟩ : ∃ q, cutS 32 l = q := ⟨_, rfl⟩
 obtain ⟨⟨hd, ln, b2⟩, hk2⟩ : ∃ q, cutS 32 r = q := ⟨_, rfl⟩
 have hkl := cut_le hk
 have hkl2 := cut_le hk2
 have e19 := tCut1_at (c := 32) hk hl
 have e19b := tCut1_at (c := 32) hk2 (show r.length ≤ 100000 by omega)
 obtain ⟨o, ho⟩ : ∃ o, decO l = o := ⟨_, rfl⟩
 rw [ho]
 unfold decO decodeS at ho
 rw [hk] at ho
 simp only [hk2] at ho
 by_cases q1 : 8392 < l.length
 ·have a1 : ltIK 8392 (Int.ofNat (lenL l)) = true := by rw [lenL_eq]; exact ltIK_tt (by show (8392 : Int) < (l.length : Int); omega)
  rw [if_pos q1] at ho; simp only at ho; subst ho
  conv => arg 2; whnf
  repeat ((first | refine Ok.T ?_); conv => arg 2; whnf)
  exact Ok.done ⟨.nils, .nil _, rfl⟩
 have a1 : ltIK 8392 (Int.ofNat (lenL l)) = false := by rw [lenL_eq]; exact ltIK_ff (by show (l.length : Int) ≤ 8392; omega)
 rw [if_neg q1] at ho
 cases b with
 | false =>
  cases q2 : isIntS a with
  | false =>
   have e58 := tIntP_f q2 (show a.length ≤ 100000 by omega)
   rw [if_pos (.inl rfl)] at ho; simp only at ho; subst ho
   conv => arg 2; whnf
   repeat ((first | refine Ok.F ?_ | refine Ok.N h19 h1 e19 ?_ | refine Ok.N h53 h1 e58 ?_); conv => arg 2; whnf)
   exact Ok.done ⟨.nils, .nil _, rfl⟩
  | true =>
   have e58 := tIntP_t q2 (show a.length ≤ 100000 by omega)
   rw [if_pos (.inl rfl)] at ho; simp only at ho; subst ho
   conv => arg 2; whnf
   repeat ((first | refine Ok.F ?_ | refine Ok.N h19 h1 e19 ?_ | refine Ok.N h53 h1 e58 ?_); conv => arg 2; whnf)
   exact Ok.done ⟨.nils, .nil _, rfl⟩
 | true =>
 cases q2 : isIntS a with
 | false =>
  have e58 := tIntP_f q2 (show a.length ≤ 100000 by omega)
  rw [if_pos (.inr q2)] at ho; simp only at ho; subst ho
  conv => arg 2; whnf
  repeat ((first | refine Ok.F ?_ | refine Ok.N h19 h1 e19 ?_ | refine Ok.N h53 h1 e58 ?_); conv => arg 2; whnf)
  exact Ok.done ⟨.nils, .nil _, rfl⟩
 | true =>
 have e58 := tIntP_t q2 (show a.length ≤ 100000 by omega)
 rw [if_neg (by simp [q2])] at ho
 have e59 : tSumS [vs' r] = some (vs' (Lib.decDigits (sumS r))) := by unfold tSumS; rw [sT_at (by omega)]
 by_cases q3 : a ≠ Lib.decDigits (sumS r)
 ·have a3 : (nB (eqBs a (Lib.decDigits (sumS r)))) = true := by rw [eqB_f q3]
  rw [if_pos q3] at ho; simp only at ho; subst ho
  conv => arg 2; whnf
  repeat ((first | refine Ok.T ?_ | refine Ok.F ?_ | refine Ok.N h19 h1 e19 ?_ | refine Ok.N h53 h1 e58 ?_ | refine Ok.N h54 h1 e59 ?_); conv => arg 2; whnf)
  exact Ok.done ⟨.nils, .nil _, rfl⟩
 have q3' : a = Lib.decDigits (sumS r) := by simpa using q3
 have a3 : (nB (eqBs a (Lib.decDigits (sumS r)))) = false := by rw [eqB_t q3']
 rw [if_neg q3] at ho
 obtain ⟨⟨⟨kd, ns, tx⟩, ok⟩, hp⟩ : ∃ q, parseP ln = q := ⟨_, rfl⟩
 have hps := parseP_ok ln
 rw [hp] at hps
 simp only at hps
 rw [hps] at ho
 have hln : ln.length ≤ 100000 := by omega
 by_cases h0 : ns = []
 ·subst h0
  have e60 : ∀ m n, tEv (parO parseP) [vs' ln] m n = some (.tup [.agg [vi (0 : Nat), vs' kd, .nils, .nils, vs' tx], .bool ok], m, n) := fun m n => by
   rw [tEv_nil hln (by unfold parO; rw [hp])]; unfold EvO.val parO; rw [hp]
  cases b2 with
  | false =>
   cases q4 : isIntS hd with
   | false =>
    have e58b := tIntP_f q4 (show hd.length ≤ 100000 by omega)
    rw [if_pos (.inl rfl)] at ho; simp only at ho; subst ho
    conv => arg 2; whnf
    repeat ((first | refine Ok.F ?_ | refine Ok.N h19 h1 e19 ?_ | refine Ok.N h53 h1 e58 ?_ | refine Ok.N h54 h1 e59 ?_ | refine Ok.N h19 h1 e19b ?_ | refine Ok.N h53 h1 e58b ?_ | refine Ok.opt (callK_mnatE n55 h55 h1 (e60 _ _)) ?_); conv => arg 2; whnf)
    exact Ok.done ⟨.nils, .nil _, rfl⟩
   | true =>
    have e58b := tIntP_t q4 (show hd.length ≤ 100000 by omega)
    rw [if_pos (.inl rfl)] at ho; simp only at ho; subst ho
    conv => arg 2; whnf
    repeat ((first | refine Ok.F ?_ | refine Ok.N h19 h1 e19 ?_ | refine Ok.N h53 h1 e58 ?_ | refine Ok.N h54 h1 e59 ?_ | refine Ok.N h19 h1 e19b ?_ | refine Ok.N h53 h1 e58b ?_ | refine Ok.opt (callK_mnatE n55 h55 h1 (e60 _ _)) ?_); conv => arg 2; whnf)
    exact Ok.done ⟨.nils, .nil _, rfl⟩
  | true =>
  cases q4 : isIntS hd with
  | false =>
   have e58b := tIntP_f q4 (show hd.length ≤ 100000 by omega)
   rw [if_pos (.inr q4)] at ho; simp only at ho; subst ho
   conv => arg 2; whnf
   repeat ((first | refine Ok.F ?_ | refine Ok.N h19 h1 e19 ?_ | refine Ok.N h53 h1 e58 ?_ | refine Ok.N h54 h1 e59 ?_ | refine Ok.N h19 h1 e19b ?_ | refine Ok.N h53 h1 e58b ?_ | refine Ok.opt (callK_mnatE n55 h55 h1 (e60 _ _)) ?_); conv => arg 2; whnf)
   exact Ok.done ⟨.nils, .nil _, rfl⟩
  | true =>
  have e58b := tIntP_t q4 (show hd.length ≤ 100000 by omega)
  rw [if_neg (by simp [q4])] at ho
  cases ok with
  | false =>
   simp only [Bool.false_eq_true, if_false] at ho; subst ho
   conv => arg 2; whnf
   repeat ((first | refine Ok.F ?_ | refine Ok.N h19 h1 e19 ?_ | refine Ok.N h53 h1 e58 ?_ | refine Ok.N h54 h1 e59 ?_ | refine Ok.N h19 h1 e19b ?_ | refine Ok.N h53 h1 e58b ?_ | refine Ok.opt (callK_mnatE n55 h55 h1 (e60 _ _)) ?_); conv => arg 2; whnf)
   exact Ok.done ⟨.nils, .nil _, rfl⟩
  | true =>
  simp only [if_true] at ho
  have e61 := tInteger_at q4
  have hck := parseP_true hp hln (intS hd) (intS_le q4)
  have hz := chkN_zero (intS hd) ⟨kd, [], tx⟩
  by_cases q5 : checkS (intS hd) ⟨kd, [], tx⟩ = true
  ·have a5 : (nB (eqIK ((chkN (intS hd) [] tx : Nat) : Int) 0)) = false := by rw [eqIK_tt (by rw [hz.2 q5]; rfl)]
   rw [if_pos q5] at ho; simp only at ho; subst ho
   conv => arg 2; whnf
   repeat ((first | refine Ok.F ?_ | refine Ok.N h19 h1 e19 ?_ | refine Ok.N h53 h1 e58 ?_ | refine Ok.N h54 h1 e59 ?_ | refine Ok.N h19 h1 e19b ?_ | refine Ok.N h53 h1 e58b ?_ | refine Ok.opt (callK_mnatE n55 h55 h1 (e60 _ _)) ?_ | refine Ok.opt (callK_mnatE n56 h56 h1 (tChk_at rfl hck)) ?_); conv => arg 2; whnf)
   exact Ok.done ⟨_, .nil _, rfl⟩
  ·have a5 : (nB (eqIK ((chkN (intS hd) [] tx : Nat) : Int) 0)) = true := by
    rw [eqIK_ff (by intro e; exact q5 (hz.1 (Int.ofNat_eq_zero.1 e)))]
   rw [if_neg q5] at ho; simp only at ho; subst ho
   conv => arg 2; whnf
   repeat ((first | refine Ok.T ?_ | refine Ok.F ?_ | refine Ok.N h19 h1 e19 ?_ | refine Ok.N h53 h1 e58 ?_ | refine Ok.N h54 h1 e59 ?_ | refine Ok.N h19 h1 e19b ?_ | refine Ok.N h53 h1 e58b ?_ | refine Ok.opt (callK_mnatE n55 h55 h1 (e60 _ _)) ?_ | refine Ok.opt (callK_mnatE n56 h56 h1 (tChk_at rfl hck)) ?_); conv => arg 2; whnf)
   exact Ok.done ⟨.nils, .nil _, rfl⟩
 ·skip
  have e60 : ∀ m n, n / 8 / 8 / 8 / 8 / 8 / 8 = 0 → tEv (parO parseP) [vs' ln] m n = some (.tup [.agg [vi (0 : Nat), vs' kd, .sl n 0 ns.length none 1, .nils, vs' tx], .bool ok], setM m n (some (.cells (ns.map vs') 9)), n + 1) := fun m n hi => by
   rw [tEv_set hln (by unfold parO; rw [hp]; exact h0) m n hi]; unfold EvO.val parO; rw [hp]
  cases b2 with
  | false =>
   cases q4 : isIntS hd with
   | false =>
    have e58b := tIntP_f q4 (show hd.length ≤ 100000 by omega)
    rw [if_pos (.inl rfl)] at ho; simp only at ho; subst ho
    conv => arg 2; whnf
    repeat ((first | refine Ok.F ?_ | refine Ok.N h19 h1 e19 ?_ | refine Ok.N h53 h1 e58 ?_ | refine Ok.N h54 h1 e59 ?_ | refine Ok.N h19 h1 e19b ?_ | refine Ok.N h53 h1 e58b ?_ | refine Ok.opt (callK_mnatE n55 h55 h1 (e60 _ _ rfl)) ?_); conv => arg 2; whnf)
    exact Ok.done ⟨.nils, .nil _, rfl⟩
   | true =>
    have e58b := tIntP_t q4 (show hd.length ≤ 100000 by omega)
    rw [if_pos (.inl rfl)] at ho; simp only at ho; subst ho
    conv => arg 2; whnf
    repeat ((first | refine Ok.F ?_ | refine Ok.N h19 h1 e19 ?_ | refine Ok.N h53 h1 e58 ?_ | refine Ok.N h54 h1 e59 ?_ | refine Ok.N h19 h1 e19b ?_ | refine Ok.N h53 h1 e58b ?_ | refine Ok.opt (callK_mnatE n55 h55 h1 (e60 _ _ rfl)) ?_); conv => arg 2; whnf)
    exact Ok.done ⟨.nils, .nil _, rfl⟩
  | true =>
  cases q4 : isIntS hd with
  | false =>
   have e58b := tIntP_f q4 (show hd.length ≤ 100000 by omega)
   rw [if_pos (.inr q4)] at ho; simp only at ho; subst ho
   conv => arg 2; whnf
   repeat ((first | refine Ok.F ?_ | refine Ok.N h19 h1 e19 ?_ | refine Ok.N h53 h1 e58 ?_ | refine Ok.N h54 h1 e59 ?_ | refine Ok.N h19 h1 e19b ?_ | refine Ok.N h53 h1 e58b ?_ | refine Ok.opt (callK_mnatE n55 h55 h1 (e60 _ _ rfl)) ?_); conv => arg 2; whnf)
   exact Ok.done ⟨.nils, .nil _, rfl⟩
  | true =>
  have e58b := tIntP_t q4 (show hd.length ≤ 100000 by omega)
  rw [if_neg (by simp [q4])] at ho
  cases ok with
  | false =>
   simp only [Bool.false_eq_true, if_false] at ho; subst ho
   conv => arg 2; whnf
   repeat ((first | refine Ok.F ?_ | refine Ok.N h19 h1 e19 ?_ | refine Ok.N h53 h1 e58 ?_ | refine Ok.N h54 h1 e59 ?_ | refine Ok.N h19 h1 e19b ?_ | refine Ok.N h53 h1 e58b ?_ | refine Ok.opt (callK_mnatE n55 h55 h1 (e60 _ _ rfl)) ?_); conv => arg 2; whnf)
   exact Ok.done ⟨.nils, .nil _, rfl⟩
  | true =>
  simp only [if_true] at ho
  have e61 := tInteger_at q4
  have hck := parseP_true hp hln (intS hd) (intS_le q4)
  obtain ⟨hc1, hc2, hc3, hc4, hc5, tt, hc6, hc7⟩ := hck
  have hlen : ns.length = 1 ∨ ns.length = 2 := by
   have := form_cases hc6
   have : ns.length ≠ 0 := fun e => h0 (List.length_eq_zero_iff.1 e)
   simp only [pMi] at *
   omega
  have hck : ChkOk (intS hd : Nat) kd ns tx := ⟨hc1, hc2, hc3, hc4, hc5, tt, hc6, hc7⟩
  match ns, h0, hlen with
  | [a1n], h0, _ =>
   have e60 : ∀ m n, n / 8 / 8 / 8 / 8 / 8 / 8 = 0 → tEv (parO parseP) [vs' ln] m n = some (.tup [.agg [vi (0 : Nat), vs' kd, .sl n 0 1 none 1, .nils, vs' tx], .bool true], setM m n (some (.cells [vs' a1n] 9)), n + 1) := e60
   have hz := chkN_zero (intS hd) ⟨kd, [a1n], tx⟩
   by_cases q5 : checkS (intS hd) ⟨kd, [a1n], tx⟩ = true
   ·have a5 : (nB (eqIK ((chkN (intS hd) [a1n] tx : Nat) : Int) 0)) = false := by rw [eqIK_tt (by rw [hz.2 q5]; rfl)]
    rw [if_pos q5] at ho; simp only at ho; subst ho
    conv => arg 2; whnf
    repeat ((first | refine Ok.F ?_ | refine Ok.N h19 h1 e19 ?_ | refine Ok.N h53 h1 e58 ?_ | refine Ok.N h54 h1 e59 ?_ | refine Ok.N h19 h1 e19b ?_ | refine Ok.N h53 h1 e58b ?_ | refine Ok.opt (callK_mnatE n55 h55 h1 (e60 _ _ rfl)) ?_ | refine Ok.opt (callK_mnatE n56 h56 h1 (tChk_at rfl hck)) ?_); conv => arg 2; whnf)
    exact Ok.done ⟨_, .inr ⟨by simp, _, rfl, rfl⟩, rfl⟩
   ·have a5 : (nB (eqIK ((chkN (intS hd) [a1n] tx : Nat) : Int) 0)) = true := by
     rw [eqIK_ff (by intro e; exact q5 (hz.1 (Int.ofNat_eq_zero.1 e)))]
    rw [if_neg q5] at ho; simp only at ho; subst ho
    conv => arg 2; whnf
    repeat ((first | refine Ok.T ?_ | refine Ok.F ?_ | refine Ok.N h19 h1 e19 ?_ | refine Ok.N h53 h1 e58 ?_ | refine Ok.N h54 h1 e59 ?_ | refine Ok.N h19 h1 e19b ?_ | refine Ok.N h53 h1 e58b ?_ | refine Ok.opt (callK_mnatE n55 h55 h1 (e60 _ _ rfl)) ?_ | refine Ok.opt (callK_mnatE n56 h56 h1 (tChk_at rfl hck)) ?_); conv => arg 2; whnf)
    exact Ok.done ⟨.nils, .nil _, rfl⟩
  | [a1n, b1n], h0, _ =>
   have e60 : ∀ m n, n / 8 / 8 / 8 / 8 / 8 / 8 = 0 → tEv (parO parseP) [vs' ln] m n = some (.tup [.agg [vi (0 : Nat), vs' kd, .sl n 0 2 none 1, .nils, vs' tx], .bool true], setM m n (some (.cells [vs' a1n, vs' b1n] 9)), n + 1) := e60
   have hz := chkN_zero (intS hd) ⟨kd, [a1n, b1n], tx⟩
   by_cases q5 : checkS (intS hd) ⟨kd, [a1n, b1n], tx⟩ = true
   ·have a5 : (nB (eqIK ((chkN (intS hd) [a1n, b1n] tx : Nat) : Int) 0)) = false := by rw [eqIK_tt (by rw [hz.2 q5]; rfl)]
    rw [if_pos q5] at ho; simp only at ho; subst ho
    conv => arg 2; whnf
    repeat ((first | refine Ok.F ?_ | refine Ok.N h19 h1 e19 ?_ | refine Ok.N h53 h1 e58 ?_ | refine Ok.N h54 h1 e59 ?_ | refine Ok.N h19 h1 e19b ?_ | refine Ok.N h53 h1 e58b ?_ | refine Ok.opt (callK_mnatE n55 h55 h1 (e60 _ _ rfl)) ?_ | refine Ok.opt (callK_mnatE n56 h56 h1 (tChk_at rfl hck)) ?_); conv => arg 2; whnf)
    exact Ok.done ⟨_, .inr ⟨by simp, _, rfl, rfl⟩, rfl⟩
   ·have a5 : (nB (eqIK ((chkN (intS hd) [a1n, b1n] tx : Nat) : Int) 0)) = true := by
     rw [eqIK_ff (by intro e; exact q5 (hz.1 (Int.ofNat_eq_zero.1 e)))]
    rw [if_neg q5] at ho; simp only at ho; subst ho
    conv => arg 2; whnf
    repeat ((first | refine Ok.T ?_ | refine Ok.F ?_ | refine Ok.N h19 h1 e19 ?_ | refine Ok.N h53 h1 e58 ?_ | refine Ok.N h54 h1 e59 ?_ | refine Ok.N h19 h1 e19b ?_ | refine Ok.N h53 h1 e58b ?_ | refine Ok.opt (callK_mnatE n55 h55 h1 (e60 _ _ rfl)) ?_ | refine Ok.opt (callK_mnatE n56 h56 h1 (tChk_at rfl hck)) ?_); conv => arg 2; whnf)
    exact Ok.done ⟨.nils, .nil _, rfl⟩
end
section
variable [Ctx] {P : Program} {E : Env'}
theorem ns_tIntP (hE : EnvOk P E) (h : Has E 32 fn53) (h124 : Has E 74 fn124) (h125 : E.nat.get 75 = some tDig32) (h126 : E.nat.get 76 = some tAtoi) : NSpec P 32 tIntP := ns_sT hE fun l hl => ⟨by unfold intV; split <;> rfl, g53 h h124 h125 h126 hl⟩
theorem ms_decP (hE : EnvOk P E) (h : Has E 8 fn20) (h19 : E.nat.get 31 = some tCut1) (h53 : E.nat.get 32 = some tIntP) (h54 : E.nat.get 33 = some tSumS) (n55 : E.nat.get 34 = none) (h55 : E.mnat.get 34 = some (tEv (parO parseP))) (n56 : E.nat.get 27 = none) (h56 : E.mnat.get 27 = some tChk) : MSpec P 8 (tEv decO) := ms_ev hE decO_plain fun l hl => g20 h h19 h53 h54 n55 h55 n56 h56 hl
end
end Go.Fm
namespace Go.Fm
def BufAt (acc : List V) (s : V) (m : Mem) : Prop := (s = .nils ∧ acc = []) ∨ ∃ id, s = .sl id 0 acc.length none 1 ∧ acc ≠ [] ∧ m.get id = some (.cells acc 5) ∧ id ≤ 262143
def BufId (s : V) (j : Nat) : Prop := ∃ o l c z, s = .sl j o l c z
theorem cutK_all (cs : List V) : cutK 0 (Nat.mul cs.length 1) cs = some cs := by
 rw [cutK_eq]
 have e : Nat.mul cs.length 1 = cs.length := Nat.mul_one _
 rw [e, if_pos (by omega)]
 simp [cut]
theorem Ok.buf {Q : V → Mem → Nat → Prop} {m : Mem} {n k : Nat} {s : V} {acc new : List V} {kt : V → Mem → Nat → A} (hs : BufAt acc s m) (hk : new.length = k) (hr : acc.length + k ≤ 100000) (hn : n ≤ 262143)
  (H : ∀ v' m' n', BufAt (acc ++ new) v' m' → n ≤ n' → n' ≤ n + 1 → (∀ j, BufId v' j → j = n) → (∀ j, j ≠ n → ¬ BufId s j → m'.get j = m.get j) → Ok Q (kt v' m' n')) : Ok Q (appVC m n 1 1 5 s k new kt) := by
 rcases hs with ⟨rfl, rfl⟩ | ⟨id, rfl, h0, hg, hid⟩
 ·show Ok Q (Bool.rec (motive := fun _ => A) (guardA (roomOk k 1) (newC m n new 5 (.sl n 0 k none 1) kt)) (kt .nils m n) (Nat.beq k 0))
  by_cases hk0 : k = 0
  ·subst hk0
   have hnew : new = [] := List.length_eq_zero_iff.1 hk
   exact H _ _ _ (.inl ⟨rfl, by simp [hnew]⟩) (Nat.le_refl _) (by omega) (by rintro j ⟨_, _, _, _, h⟩; cases h) (fun _ _ _ => rfl)
  ·have e : Nat.beq k 0 = false := by
    cases hb : Nat.beq k 0 with
    | false => rfl
    | true => exact absurd (Nat.eq_of_beq_eq_true hb) hk0
   rw [e]
   refine Ok.tt (by simp [roomOk]; omega) ?_
   refine Ok.putM hn fun m' hm => ?_
   refine H _ _ _ (.inr ⟨n, by simp [hk], ?_, ?_, hn⟩) (by omega) (by omega) (by rintro j ⟨_, _, _, _, h⟩; injection h with h; exact h.symm) ?_
   ·rintro e; apply hk0; rw [← hk]; simpa using congrArg List.length e
   ·rw [hm, if_pos rfl]; rfl
   ·intro j hj _; rw [hm, if_neg hj]
 ·have hl : 0 < acc.length := by
   cases acc with
   | nil => exact absurd rfl h0
   | cons a r => simp
  have b1 : Nat.beq (Nat.add acc.length k) 0 = false := by
   cases hb : Nat.beq (Nat.add acc.length k) 0 with
   | false => rfl
   | true => have := Nat.eq_of_beq_eq_true hb; have h2 : acc.length + k = 0 := this; omega
  have b2 : Nat.beq acc.length 0 = false := by
   cases hb : Nat.beq acc.length 0 with
   | false => rfl
   | true => have := Nat.eq_of_beq_eq_true hb; omega
  have b3 : roomOk (Nat.add acc.length k) 1 = true := by
   show roomOk (acc.length + k) 1 = true
   simp [roomOk]; omega
  unfold appVC
  refine Ok.tt b3 ?_
  refine Ok.ff b1 ?_
  unfold elsC
  refine Ok.ff b2 ?_
  refine Ok.getM hg hid ?_
  refine Ok.opt (cutK_all acc) ?_
  refine Ok.getM hg hid ?_
  refine Ok.putM hid fun m1 hm1 => ?_
  refine Ok.putM hn fun m2 hm2 => ?_
  refine H _ _ _ (.inr ⟨n, ?_, by simp [h0], ?_, hn⟩) (by omega) (by omega) (by rintro j ⟨_, _, _, _, h⟩; injection h with h; exact h.symm) ?_
  ·simp [hk]
  ·rw [hm2, if_pos rfl]; rfl
  ·intro j hj hb
   rw [hm2, if_neg hj, hm1, if_neg]
   rintro rfl
   exact hb ⟨_, _, _, _, rfl⟩
end Go.Fm
set_option maxHeartbeats 8000000
namespace Go.Fm
theorem ev_ptrEq {x y : X} {t : Tr 3 V} {id o : Nat} (hx : val t x = .ptr id o) (hy : val t y = .ptr id o) : evP (.ptrEq .neq x y) t = some (.bool false) := by
 simp [evP, hx, hy]; rfl
theorem ev_toU {x : X} {t : Tr 3 V} {m : Mem} {n id off : Nat} {cs : List V} {T : TypeId} (hv : val t x = .ptr id off) (hm : m.get id = some (.cells cs T)) (ho : Nat.blt off cs.length = true) : evM (.toU x) t m n = some (.ptr id off, m, n) := by
 simp only [evM, hv, hm, ho, cond_true]
theorem ev_frU {x : X} {tbl : List (TypeId × Nat × Nat)} {t : Tr 3 V} {m : Mem} {n id off : Nat} {cs : List V} {T : TypeId} (hv : val t x = .ptr id off) (hm : m.get id = some (.cells cs T)) (ho : (tbl.any (fun p => p.1 == T && p.2.1 == off && Nat.ble p.2.2 cs.length)) = true) : evM (.frU tbl x) t m n = some (.ptr id off, m, n) := by
 simp only [evM, hv, hm, ho, cond_true]
theorem bytes_len (x : Bs) : (bytesL (⟨⟨x⟩⟩ : ByteArray)).length = (⟨⟨x⟩⟩ : ByteArray).size := by
 simp [bytesL]; rfl
theorem bytes_app (x y : Bs) : bytesL (⟨⟨x⟩⟩ : ByteArray) ++ bytesL (⟨⟨y⟩⟩ : ByteArray) = bytesL (⟨⟨x ++ y⟩⟩ : ByteArray) := by
 simp [bytesL]
theorem bytes_one : ∀ x : Bs, allOne (bytesL (⟨⟨x⟩⟩ : ByteArray)) = true
 | [] => rfl
 | c :: x => by
  have := bytes_one x
  simpa [bytesL, allOne] using this
def BuildAt (b : Nat) (acc : List V) (m : Mem) : Prop := ∃ p s, (p = .nilp ∨ p = .ptr b 0) ∧ m.get b = some (.cells [p, s] 125) ∧ BufAt acc s m ∧ ∀ j, BufId s j → b < j
theorem BufAt.not_b {acc : List V} {s : V} {m : Mem} {b : Nat} {cs : List V} (h : BufAt acc s m) (hb : m.get b = some (.cells cs 125)) : ¬ BufId s b := by
 rintro ⟨o, l, c, z, rfl⟩
 rcases h with ⟨e, _⟩ | ⟨id, e, _, hg, _⟩
 ·cases e
 ·injection e with e1; subst e1
  rw [hb] at hg
  injection hg with hg; injection hg with _ hg; cases hg
theorem BufAt.keep {acc : List V} {s : V} {m m' : Mem} {b : Nat} (h : BufAt acc s m) (hb : ¬ BufId s b) (hm : ∀ j, j ≠ b → m'.get j = m.get j) : BufAt acc s m' := by
 rcases h with h | ⟨id, rfl, h0, hg, hi⟩
 ·exact .inl h
 ·refine .inr ⟨id, rfl, h0, ?_, hi⟩
  rw [hm id (by rintro rfl; exact hb ⟨_, _, _, _, rfl⟩)]; exact hg
theorem Ok.sub {P Q : V → Mem → Nat → Prop} {a : A} {k : V × Mem × Nat → A} (h : Ok P a) (hk : ∀ v m n, P v m n → Ok Q (k (v, m, n))) : Ok Q (Option.rec (motive := fun _ => A) none k a) := by
 obtain ⟨v, m, n, rfl, hp⟩ := h
 exact hk v m n hp
section
variable {E : Env'} {Q : V → Mem → Nat → Prop}
attribute [local irreducible] Ok callK loopK lenL nthL takeL dropL eqBs getM putM appVC evM
theorem g50 (h : Has E 69 fn50) (h121 : Has E 138 fn121) (h208 : E.nat.get 216 = some tSame) {b : Nat} {x : Bs} {acc : List V} {m : Mem} {n : Nat} (hB : BuildAt b acc m) (hbl : b ≤ 262143) (hr : acc.length + x.length ≤ 100000) (hn : n ≤ 262143) (hbn : b < n) {F F1 F2 : Nat} (h1 : F = F1 + 1) (h2 : F1 = F2 + 1) : Ok (fun v m' n' => BuildAt b (acc ++ bytesL (⟨⟨x⟩⟩ : ByteArray)) m' ∧ n ≤ n' ∧ n' ≤ n + 1 ∧ ∀ j, j < b → m'.get j = m.get j) (callK E (F + 1) (.f 69) [.ptr b 0, vs' x] m n) := by
 obtain ⟨p, s, hp, hb, hs, hsb⟩ := hB
 have hbs := hs.not_b hb
 have hall := bytes_one x
 have hlen := bytes_len x
 have hr : acc.length + (⟨⟨x⟩⟩ : ByteArray).size ≤ 100000 := by rw [← hlen]; simpa [bytesL] using hr
 rw [callK_fn h.h1 h.h2 h.h3]
 rcases hp with rfl | rfl
 ·skip
  conv => arg 2; whnf
  refine Ok.callE h121 h1 (show 1 ≤ 20 by omega) ?_
  conv => arg 2; whnf
  refine Ok.getM hb hbl ?_
  conv => arg 2; whnf
  repeat ((first | refine Ok.opt (ev_toU rfl hb rfl) ?_ | refine Ok.N h208 h2 rfl ?_ | refine Ok.opt (ev_frU rfl hb rfl) ?_); conv => arg 2; whnf)
  refine Ok.getM hb hbl ?_
  conv => arg 2; whnf
  refine Ok.putM hbl fun m1 hm1 => ?_
  have hb1 : m1.get b = some (.cells [.ptr b 0, s] 125) := by rw [hm1, if_pos rfl]; rfl
  conv => arg 2; whnf
  refine Ok.ret ?_
  conv => arg 2; whnf
  refine Ok.getM hb1 hbl ?_
  conv => arg 2; whnf
  refine Ok.tt hall ?_
  refine Ok.buf (s := s) (hs.keep hbs fun j hj => by rw [hm1, if_neg hj]) hlen hr hn fun v2 m2 n2 hv2 hn2 hn3 hi2 hm2 => ?_
  have hb2 : m2.get b = some (.cells [.ptr b 0, s] 125) := by rw [hm2 b (by omega) hbs]; exact hb1
  conv => arg 2; whnf
  refine Ok.getM hb2 hbl ?_
  conv => arg 2; whnf
  have hc : cellsV v2 = some [v2] := by rcases hv2 with ⟨rfl, _⟩ | ⟨_, rfl, _⟩ <;> rfl
  have ha : allOne [v2] = true := by rcases hv2 with ⟨rfl, _⟩ | ⟨_, rfl, _⟩ <;> rfl
  repeat ((first | refine Ok.opt (v := [v2]) hc ?_ | refine Ok.tt ha ?_); conv => arg 2; whnf)
  refine Ok.putM hbl fun m3 hm3 => ?_
  conv => arg 2; whnf
  refine Ok.done ⟨⟨.ptr b 0, v2, .inr rfl, by rw [hm3, if_pos rfl], hv2.keep (hv2.not_b hb2) fun j hj => (by rw [hm3, if_neg hj]), fun j hj => (by rw [hi2 j hj]; exact hbn)⟩, hn2, hn3, fun j hj => ?_⟩
  rw [hm3, if_neg (by omega), hm2 j (by omega) fun h => absurd (hsb j h) (by omega), hm1, if_neg (by omega)]
 ·skip
  conv => arg 2; whnf
  refine Ok.callE h121 h1 (show 1 ≤ 20 by omega) ?_
  conv => arg 2; whnf
  refine Ok.getM hb hbl ?_
  conv => arg 2; whnf
  refine Ok.getM hb hbl ?_
  conv => arg 2; whnf
  repeat ((first | refine Ok.opt (ev_ptrEq rfl rfl) ?_ | refine Ok.ret ?_); conv => arg 2; whnf)
  refine Ok.getM hb hbl ?_
  conv => arg 2; whnf
  refine Ok.tt hall ?_
  refine Ok.buf (s := s) hs hlen hr hn fun v2 m2 n2 hv2 hn2 hn3 hi2 hm2 => ?_
  have hb2 : m2.get b = some (.cells [.ptr b 0, s] 125) := by rw [hm2 b (by omega) hbs]; exact hb
  conv => arg 2; whnf
  refine Ok.getM hb2 hbl ?_
  conv => arg 2; whnf
  have hc : cellsV v2 = some [v2] := by rcases hv2 with ⟨rfl, _⟩ | ⟨_, rfl, _⟩ <;> rfl
  have ha : allOne [v2] = true := by rcases hv2 with ⟨rfl, _⟩ | ⟨_, rfl, _⟩ <;> rfl
  repeat ((first | refine Ok.opt (v := [v2]) hc ?_ | refine Ok.tt ha ?_); conv => arg 2; whnf)
  refine Ok.putM hbl fun m3 hm3 => ?_
  conv => arg 2; whnf
  refine Ok.done ⟨⟨.ptr b 0, v2, .inr rfl, by rw [hm3, if_pos rfl], hv2.keep (hv2.not_b hb2) fun j hj => (by rw [hm3, if_neg hj]), fun j hj => (by rw [hi2 j hj]; exact hbn)⟩, hn2, hn3, fun j hj => ?_⟩
  rw [hm3, if_neg (by omega), hm2 j (by omega) fun h => absurd (hsb j h) (by omega)]
end
end Go.Fm
set_option maxHeartbeats 8000000
namespace Go.Fm
theorem Has.run {E : Env'} {f : FuncId} {fn : RFn} (h : Has E f fn) {Q : V → Mem → Nat → Prop} {vs : List V} {m : Mem} {n K F : Nat} (e0 : K = F + 1) (hl : vs.length ≤ fn.nt)
  (hr : Ok Q (argsC vs 0 z3 fun t => (comp E fn.body).run F (callK E F) t m n [] (endF E F (callK E F) fn.res) noE (endF E F (callK E F) fn.res))) : Ok Q (callK E K (.f f) vs m n) := by
 subst e0
 rw [callK_fn h.h1 h.h2 h.h3, fn_run hl]
 exact hr
theorem ev_slSome {x : X} {t : Tr 3 V} {id off len : Nat} {c : Option Nat} {z : Nat} (hv : val t x = .sl id off len c z) (h : 0 < len) : evP (.slData x) t = some (.ptr id off) := by
 have e : Nat.blt 0 len = true := Nat.ble_eq_true_of_le h
 simp only [evP, hv, e, cond_true]
theorem bytesV_L : ∀ x : Bs, bytesV (bytesL (bs x)) = some x
 | [] => rfl
 | c :: x => by
  have ih := bytesV_L x
  have hc : leI 0 ((c.toNat : Nat) : Int) = true := by simp [leI]
  have hc2 : leI ((c.toNat : Nat) : Int) 255 = true := by
   have := c.toNat_lt
   simp [leI]; omega
  show (bif leI 0 ((c.toNat : Nat) : Int) && leI ((c.toNat : Nat) : Int) 255 then (bytesV (bytesL (bs x))).map (fun l => UInt8.ofNat (Int.toNat ((c.toNat : Nat) : Int)) :: l) else none) = _
  rw [hc, hc2, ih]
  simp
theorem ev_uNil {T : TypeId} {x l : X} {t : Tr 3 V} {m : Mem} {n : Nat} (hx : val t x = .nilp) (hl : val t l = .int .i64 (Int.ofNat 0)) : evM (.uStr T x l) t m n = some (vs' [], m, n) := by
 simp only [evM, hx, hl, asIntK]; rfl
theorem ev_uSome {T : TypeId} {px pl : X} {t : Tr 3 V} {m : Mem} {n id k : Nat} {x : Bs} (hx : val t px = .ptr id 0) (hl : val t pl = .int .i64 (Int.ofNat k)) (hk : k = (bytesL (bs x)).length) (h0 : bytesL (bs x) ≠ []) (hg : m.get id = some (.cells (bytesL (bs x)) T)) (hle : (bytesL (bs x)).length ≤ 100000) (hid : id ≤ 262143) :
  ∃ m', (∀ j, j ≠ id → m'.get j = m.get j) ∧ evM (.uStr T px pl) t m n = some (vs' x, m', n) := by
 obtain ⟨m', hm'⟩ := Tr.set_ok (d := 6) (f := fuel) (k := id) (by show id < 262144; omega) m (none : Option B)
 refine ⟨m', fun j hj => by rw [Tr.get_set hm' j, if_neg hj], ?_⟩
 have hk0 : 0 < k := by
  rw [hk]
  cases h : bytesL (bs x) with
  | nil => exact absurd h h0
  | cons a r => simp
 have b0 : ((Int.ofNat k) == 0) = false := by
  rw [beq_eq_false_iff_ne]; intro e; have : (k : Int) = 0 := e; omega
 have b1 : leI 1 (Int.ofNat k) = true := decide_eq_true (by show (1 : Int) ≤ (k : Int); omega)
 have b2 : leI (Int.ofNat k) 4294967296 = true := decide_eq_true (by show (k : Int) ≤ 4294967296; omega)
 have b3 : Nat.ble (Int.toNat (Int.ofNat k)) (bytesL (bs x)).length = true := Nat.ble_eq_true_of_le (by show k ≤ _; omega)
 have b4 : ((bytesL (bs x)).take (Int.toNat (Int.ofNat k))) = bytesL (bs x) := by
  show (bytesL (bs x)).take k = _
  rw [hk, List.take_length]
 have e : asIntK .i64 (.int .i64 (Int.ofNat k)) = some (Int.ofNat k) := rfl
 simp only [evM, hl, e, Option.bind_some, hx, b0, cond_false, hg, beq_self_eq_true, b1, b2, b3, Bool.and_self, cond_true, b4, bytesV_L, hm', Option.map_some]
theorem Ok.uSome {Q : V → Mem → Nat → Prop} {k : V × Mem × Nat → A} {T : TypeId} {px pl : X} {t : Tr 3 V} {m : Mem} {n id j : Nat} {x : Bs} (hx : val t px = .ptr id 0) (hl : val t pl = .int .i64 (Int.ofNat j)) (hk : j = (bytesL (bs x)).length) (h0 : bytesL (bs x) ≠ []) (hg : m.get id = some (.cells (bytesL (bs x)) T)) (hle : (bytesL (bs x)).length ≤ 100000) (hid : id ≤ 262143)
  (H : ∀ m', (∀ j, j ≠ id → m'.get j = m.get j) → Ok Q (k (vs' x, m', n))) : Ok Q (Option.rec (motive := fun _ => A) none k (evM (.uStr T px pl) t m n)) := by
 obtain ⟨m', hf, hm⟩ := ev_uSome (n := n) hx hl hk h0 hg hle hid
 exact Ok.opt hm (H m' hf)
theorem tPre1_at {l : Bs} (c : UInt8) (hl : l.length ≤ 100000) : tPre1 [vs' l, vs' [c]] = some (.bool (decide (l.head? = some c))) := by
 unfold tPre1; rw [s1T_at hl]
theorem tPre1_t {l : Bs} {c : UInt8} (hl : l.length ≤ 100000) (h : l.head? = some c) : tPre1 [vs' l, vs' [c]] = some (.bool true) := by
 rw [tPre1_at c hl, decide_eq_true h]
theorem tPre1_f {l : Bs} {c : UInt8} (hl : l.length ≤ 100000) (h : l.head? ≠ some c) : tPre1 [vs' l, vs' [c]] = some (.bool false) := by
 rw [tPre1_at c hl, decide_eq_false h]
theorem bsL_len (x : Bs) : (bytesL (bs x)).length = x.length := by simp [bytesL]
theorem bsL_app (x y : Bs) : bytesL (bs x) ++ bytesL (bs y) = bytesL (bs (x ++ y)) := bytes_app x y
theorem g50E {E : Env'} (h : Has E 69 fn50) (h121 : Has E 138 fn121) (h208 : E.nat.get 216 = some tSame) {b : Nat} {x acc : Bs} {m : Mem} {n : Nat} (hB : BuildAt b (bytesL (bs acc)) m) (hbl : b ≤ 262143) (hr : acc.length + x.length ≤ 100000) (hn : n ≤ 262143) (hbn : b < n) {K F F1 F2 : Nat} (h0 : K = F + 1) (h1 : F = F1 + 1) (h2 : F1 = F2 + 1) :
  Ok (fun v m' n' => BuildAt b (bytesL (bs (acc ++ x))) m' ∧ n ≤ n' ∧ n' ≤ n + 1 ∧ ∀ j, j < b → m'.get j = m.get j) (callK E K (.f 69) [.ptr b 0, vs' x] m n) := by
 subst h0
 rw [← bsL_app]
 exact g50 h h121 h208 hB hbl (by rw [bsL_len]; exact hr) hn hbn h1 h2
section
variable {E : Env'} {Q : V → Mem → Nat → Prop}
attribute [local irreducible] Ok callK loopK lenL nthL takeL dropL eqBs getM putM appVC evM
theorem pln_loop (h50 : Has E 69 fn50) (h121 : Has E 138 fn121) (h208 : E.nat.get 216 = some tSame) (h19 : E.nat.get 31 = some tCut1) (h151 : E.nat.get 145 = some tPre1) {F F1 F2 F3 : Nat} (e1 : F = F1 + 1) (e2 : F1 = F2 + 1) (e3 : F2 = F3 + 1) {kN kR : KKN} {kE : Nat → KKN} {fi : List FI} :
  ∀ (k0 : Nat) (r x : Bs) (K : Nat) (t : Tr 3 V) (m : Mem) (n : Nat), r.length ≤ k0 → r.length < K → t.get 0 = some (vs' r) → t.get 4 = some (.ptr 0 0) → BuildAt 0 (bytesL (bs x)) m → x.length + r.length ≤ 100000 → 1 ≤ n → n + r.length + 1 ≤ 262000 → (10 : UInt8) ∉ r →
  (∀ t' m' n', plainS r = none → t'.get 2 = some (vs' []) → t'.get 3 = some (.bool false) → Ok Q (kR t' m' n' fi)) →
  (∀ t' m' n' y, plainS r = some y → t'.get 4 = some (.ptr 0 0) → BuildAt 0 (bytesL (bs (x ++ y))) m' → (x ++ y).length ≤ 100000 → Ok Q (kE 0 t' m' n' fi)) →
  Ok Q (loopK (comp E bd128).run F (callK E F) kN kE kR K t m n fi) := by
 intro k0
 induction k0 with
 | zero =>
  intro r x K t m n hk hK t0 t4 hB hx hn hn2 hr H1 H2
  obtain rfl : r = [] := List.length_eq_zero_iff.1 (by omega)
  obtain ⟨K, rfl⟩ : ∃ k', K = k' + 1 := ⟨K - 1, by omega⟩
  rw [loopK_succ]
  obtain ⟨f_t, rfl⟩ := mkT_form [(0, _), (4, _)] ⟨t0, t4, trivial⟩
  have e0 : (nB (eqBs ([] : Bs) [])) = false := by rw [eqB_t rfl]
  conv => arg 2; whnf
  repeat ((first | refine Ok.F ?_); conv => arg 2; whnf)
  refine H2 _ _ _ [] ?_ ?_ ?_ ?_
  ·simp [plainS]
  ·rfl
  ·simpa using hB
  ·simpa using hx
 | succ k0 ih =>
  intro r x K t m n hk hK t0 t4 hB hx hn hn2 hr H1 H2
  obtain ⟨K, rfl⟩ : ∃ k', K = k' + 1 := ⟨K - 1, by omega⟩
  rw [loopK_succ]
  obtain ⟨f_t, rfl⟩ := mkT_form [(0, _), (4, _)] ⟨t0, t4, trivial⟩
  by_cases hr0 : r = []
  ·subst hr0
   have e0 : (nB (eqBs ([] : Bs) [])) = false := by rw [eqB_t rfl]
   conv => arg 2; whnf
   repeat ((first | refine Ok.F ?_); conv => arg 2; whnf)
   refine H2 _ _ _ [] ?_ ?_ ?_ ?_
   ·simp [plainS]
   ·rfl
   ·simpa using hB
   ·simpa using hx
  ·have e0 : (nB (eqBs r [])) = true := by rw [eqB_f hr0]
   obtain ⟨⟨a, r2, mo⟩, hc⟩ : ∃ q, cutS 92 r = q := ⟨_, rfl⟩
   have hcl := cut_le hc
   have e19 := tCut1_at hc (by omega)
   cases mo with
   | false =>
    obtain ⟨hp1, hp2⟩ := plainS_cut_no hr (by rw [hc])
    rw [hc] at hp2
    simp only at hp2
    subst hp2
    conv => arg 2; whnf
    repeat ((first | refine Ok.T ?_ | refine Ok.N h19 e1 e19 ?_); conv => arg 2; whnf)
    refine Ok.sub (g50E h50 h121 h208 hB (by omega) (x := a) (by omega) (by omega) (by omega) e1 e2 e3) fun v m' n' hq => ?_
    conv => arg 2; whnf
    refine H2 _ _ _ _ hp1 ?_ hq.1 ?_
    ·rfl
    ·simp; omega
   | true =>
    obtain ⟨hp1, hp2, hp3⟩ := plainS_cut hr (by rw [hc])
    rw [hc] at hp1 hp2 hp3
    simp only at hp1 hp2 hp3
    cases r2 with
    | nil =>
     have hp4 : plainS r = none := by rw [hp1, plainS_end]; rfl
     have ea := tPre1_f (l := []) (c := 92) (by simp) (by simp)
     have eb := tPre1_f (l := []) (c := 110) (by simp) (by simp)
     conv => arg 2; whnf
     repeat ((first | refine Ok.T ?_ | refine Ok.N h19 e1 e19 ?_); conv => arg 2; whnf)
     refine Ok.sub (g50E h50 h121 h208 hB (by omega) (x := a) (by omega) (by omega) (by omega) e1 e2 e3) fun v m' n' hq => ?_
     conv => arg 2; whnf
     repeat ((first | refine Ok.N h151 e1 ea ?_ | refine Ok.N h151 e1 eb ?_); conv => arg 2; whnf)
     refine H1 _ _ _ hp4 ?_ ?_
     ·rfl
     ·rfl
    | cons d r3 =>
     simp only [List.length_cons] at hp3 hcl
     have hr3 : (10 : UInt8) ∉ r3 := fun q => hp2 (List.mem_cons_of_mem _ q)
     have g1 : leIK 1 (Int.ofNat (lenL (d :: r3))) = true := by rw [lenL_eq]; exact leIK_tt (by show (1 : Int) ≤ ((d :: r3).length : Int); simp; omega)
     have g2 : leIK (Int.ofNat (lenL (d :: r3))) (Int.ofNat (lenL (d :: r3))) = true := le_self _
     have sl : takeL (Nat.sub (toN (Int.ofNat (lenL (d :: r3)))) (toN 1)) (dropL (toN 1) (d :: r3)) = r3 := sl_suf (d :: r3) 1
     by_cases h92 : d = 92
     ·subst h92
      have hp4 : plainS r = (plainS r3).map ((a ++ [92]) ++ ·) := by
       rw [hp1, plainS_b, Option.map_map]
       congr 1; funext z; simp
      have ea := tPre1_t (l := 92 :: r3) (c := 92) (by simp; omega) (by simp)
      conv => arg 2; whnf
      repeat ((first | refine Ok.T ?_ | refine Ok.N h19 e1 e19 ?_); conv => arg 2; whnf)
      refine Ok.sub (g50E h50 h121 h208 hB (by omega) (x := a) (by omega) (by omega) (by omega) e1 e2 e3) fun v m' n' hq => ?_
      conv => arg 2; whnf
      refine Ok.N h151 e1 ea ?_
      conv => arg 2; whnf
      refine Ok.sub (g50E h50 h121 h208 hq.1 (by omega) (x := [92]) (by simp; omega) (by omega) (by omega) e1 e2 e3) fun v2 m2 n2 hq2 => ?_
      conv => arg 2; whnf
      repeat ((first | refine Ok.T ?_); conv => arg 2; whnf)
      refine ih r3 (x ++ a ++ [92]) K _ m2 n2 (by omega) (by omega) ?_ ?_ hq2.1 (by simp; omega) (by omega) (by omega) hr3 ?_ ?_
      ·exact res_str sl
      ·rfl
      ·intro t' m' n' hpn h2 h3
       exact H1 t' m' n' (by rw [hp4, hpn]; rfl) h2 h3
      ·intro t' m' n' y hpn h4 hB' hle
       refine H2 t' m' n' (a ++ [92] ++ y) (by rw [hp4, hpn]; rfl) h4 ?_ ?_
       ·simpa using hB'
       ·simpa using hle
     ·by_cases h110 : d = 110
      ·subst h110
       have hp4 : plainS r = (plainS r3).map ((a ++ [10]) ++ ·) := by
        rw [hp1, plainS_n, Option.map_map]
        congr 1; funext z; simp
       have ea := tPre1_f (l := 110 :: r3) (c := 92) (by simp; omega) (by simp)
       have eb := tPre1_t (l := 110 :: r3) (c := 110) (by simp; omega) (by simp)
       conv => arg 2; whnf
       repeat ((first | refine Ok.T ?_ | refine Ok.N h19 e1 e19 ?_); conv => arg 2; whnf)
       refine Ok.sub (g50E h50 h121 h208 hB (by omega) (x := a) (by omega) (by omega) (by omega) e1 e2 e3) fun v m' n' hq => ?_
       conv => arg 2; whnf
       repeat ((first | refine Ok.N h151 e1 ea ?_ | refine Ok.N h151 e1 eb ?_); conv => arg 2; whnf)
       refine Ok.sub (g50E h50 h121 h208 hq.1 (by omega) (x := [10]) (by simp; omega) (by omega) (by omega) e1 e2 e3) fun v2 m2 n2 hq2 => ?_
       conv => arg 2; whnf
       repeat ((first | refine Ok.T ?_); conv => arg 2; whnf)
       refine ih r3 (x ++ a ++ [10]) K _ m2 n2 (by omega) (by omega) ?_ ?_ hq2.1 (by simp; omega) (by omega) (by omega) hr3 ?_ ?_
       ·exact res_str sl
       ·rfl
       ·intro t' m' n' hpn h2 h3
        exact H1 t' m' n' (by rw [hp4, hpn]; rfl) h2 h3
       ·intro t' m' n' y hpn h4 hB' hle
        refine H2 t' m' n' (a ++ [10] ++ y) (by rw [hp4, hpn]; rfl) h4 ?_ ?_
        ·simpa using hB'
        ·simpa using hle
      ·have hp4 : plainS r = none := by rw [hp1, plainS_x h92 h110]; rfl
       have ea := tPre1_f (l := d :: r3) (c := 92) (by simp; omega) (by simpa using h92)
       have eb := tPre1_f (l := d :: r3) (c := 110) (by simp; omega) (by simpa using h110)
       conv => arg 2; whnf
       repeat ((first | refine Ok.T ?_ | refine Ok.N h19 e1 e19 ?_); conv => arg 2; whnf)
       refine Ok.sub (g50E h50 h121 h208 hB (by omega) (x := a) (by omega) (by omega) (by omega) e1 e2 e3) fun v m' n' hq => ?_
       conv => arg 2; whnf
       repeat ((first | refine Ok.N h151 e1 ea ?_ | refine Ok.N h151 e1 eb ?_); conv => arg 2; whnf)
       refine H1 _ _ _ hp4 ?_ ?_
       ·rfl
       ·rfl
theorem g39 (h39 : Has E 58 fn39) {b : Nat} {y : Bs} {m : Mem} {n : Nat} (hB : BuildAt b (bytesL (bs y)) m) (hbl : b ≤ 262143) (hle : y.length ≤ 100000) {K F : Nat} (e0 : K = F + 1) :
  Ok (fun v m' n' => v = vs' y ∧ n' = n ∧ ∀ j, j < b → m'.get j = m.get j) (callK E K (.f 58) [.ptr b 0] m n) := by
 obtain ⟨p, s, hpp, hb0, hs, hsb⟩ := hB
 refine h39.run e0 (show 1 ≤ 14 by omega) ?_
 rcases hs with ⟨rfl, hy⟩ | ⟨id, rfl, hy, hg, hid⟩
 ·obtain rfl : y = [] := by
   have := congrArg List.length hy
   rw [bsL_len] at this
   exact List.length_eq_zero_iff.1 this
  conv => arg 2; whnf
  refine Ok.getM hb0 hbl ?_
  conv => arg 2; whnf
  refine Ok.getM hb0 hbl ?_
  conv => arg 2; whnf
  refine Ok.opt (ev_uNil (by rfl) (by rfl)) ?_
  conv => arg 2; whnf
  exact Ok.done ⟨rfl, rfl, fun _ _ => rfl⟩
 ·have hy0 : 0 < (bytesL (bs y)).length := by
   cases h : bytesL (bs y) with
   | nil => exact absurd h hy
   | cons a r => simp
  have := hsb id ⟨_, _, _, _, rfl⟩
  conv => arg 2; whnf
  refine Ok.getM hb0 hbl ?_
  conv => arg 2; whnf
  refine Ok.opt (ev_slSome (by rfl) hy0) ?_
  conv => arg 2; whnf
  refine Ok.getM hb0 hbl ?_
  conv => arg 2; whnf
  refine Ok.uSome (by rfl) (by rfl) rfl hy hg (by rw [bsL_len]; exact hle) hid fun m2 hm2 => ?_
  conv => arg 2; whnf
  exact Ok.done ⟨rfl, rfl, fun j hj => hm2 j (by omega)⟩
theorem g128 (h : Has E 79 fn128) (h50 : Has E 69 fn50) (h121 : Has E 138 fn121) (h39 : Has E 58 fn39) (h208 : E.nat.get 216 = some tSame) (h19 : E.nat.get 31 = some tCut1) (h151 : E.nat.get 145 = some tPre1) (h45 : E.nat.get 64 = some tHas1) {l : Bs} (hl : l.length ≤ 100000) : Gives E 79 [vs' l] (plnV l) := by
 obtain ⟨F, F1, F2, F3, e1, e2, e3, hb⟩ : ∃ F F1 F2 F3, F = F1 + 1 ∧ F1 = F2 + 1 ∧ F2 = F3 + 1 ∧ l.length < F := ⟨l.length + 3, l.length + 2, l.length + 1, l.length, rfl, rfl, rfl, by omega⟩
 refine h.gives2 F (show 1 ≤ 33 by omega) ?_
 by_cases hm : (10 : UInt8) ∈ l
 ·have hp := plainS_nl l.length (Nat.le_refl _) hm
  have hv : plnV l = .tup [vs' [], .bool false] := by unfold plnV; rw [hp]
  have e45 : tHas1 [vs' l, vs' [10]] = some (.bool true) := by unfold tHas1; rw [s1T_at hl, cutS_mem hm]
  rw [hv]
  conv => arg 2; whnf
  refine Ok.N h45 e1 e45 ?_
  conv => arg 2; whnf
  exact Ok.eq rfl
 ·have e45 : tHas1 [vs' l, vs' [10]] = some (.bool false) := by unfold tHas1; rw [s1T_at hl, cutS_not hm]
  conv => arg 2; whnf
  refine Ok.N h45 e1 e45 ?_
  conv => arg 2; whnf
  refine Ok.putM (by omega) fun m1 hm1 => ?_
  conv => arg 2; whnf
  refine pln_loop h50 h121 h208 h19 h151 e1 e2 e3 l.length l [] _ _ _ _ (Nat.le_refl _) hb rfl rfl ⟨.nilp, .nils, .inl rfl, ?_, .inl ⟨rfl, rfl⟩, by rintro j ⟨_, _, _, _, h⟩; cases h⟩ (by simpa using hl) (Nat.le_refl _) (by omega) hm ?_ ?_
  ·rw [hm1, if_pos rfl]
  ·intro t' m' n' hp t'2 t'3
   have hv : plnV l = .tup [vs' [], .bool false] := by unfold plnV; rw [hp]
   rw [hv]
   obtain ⟨f_tp, rfl⟩ := mkT_form [(2, _), (3, _)] ⟨t'2, t'3, trivial⟩
   conv => arg 2; whnf
   exact Ok.eq rfl
  ·intro t' m' n' y hp t'4 hB hle
   have hv : plnV l = .tup [vs' y, .bool true] := by unfold plnV; rw [hp]
   rw [hv]
   rw [List.nil_append] at hB hle
   obtain ⟨f_tp, rfl⟩ := mkT_form [(4, _)] ⟨t'4, trivial⟩
   conv => arg 2; whnf
   refine Ok.sub (g39 h39 hB (by omega) hle e1) fun v m2 n2 hq => ?_
   obtain ⟨rfl, _⟩ := hq
   conv => arg 2; whnf
   exact Ok.eq rfl
end
end Go.Fm
set_option maxHeartbeats 8000000
namespace Go.Fm
theorem neI_t {a : Int} (h : a ≠ 0) : (nB (eqIK a 0)) = true := by rw [eqIK_ff h]
theorem neI_f {a : Int} (h : a = 0) : (nB (eqIK a 0)) = false := by rw [eqIK_tt h]
theorem cutK_at {cs : List V} {k : Nat} {v : V} (h : cs[k]? = some v) : cutK k 1 cs = some [v] := by
 have hk : k < cs.length := (gEs h).1
 rw [cutK_eq, if_pos (by omega)]
 have e : cut k 1 cs = [v] := by
  unfold cut
  rw [List.drop_eq_getElem_cons hk]
  have := (gEs h).2
  simp [this]
 rw [e]
def LenV (vv : V) (k : Nat) : Prop := (vv = .nils ∧ k = 0) ∨ ∃ id off cap sz, vv = .sl id off k cap sz
theorem Ok.lenV {Q : V → Mem → Nat → Prop} {x nv : V} {c : Nat} {f : Nat → Nat → Nat → Option Nat → Nat → A} {g : A} (h : LenV nv c) (hx : x = nv) (e1 : ∀ id off cap sz, f id off c cap sz = f 0 0 c none 1) (e2 : f 0 0 0 none 1 = g) (hk : Ok Q (f 0 0 c none 1)) :
  Ok Q (match (generalizing := false) x with
   | .sl id off len cap sz => f id off len cap sz
   | .nils => g
   | _ => none) := by
 subst hx
 rcases h with ⟨rfl, rfl⟩ | ⟨id, off, cap, sz, rfl⟩
 ·show Ok Q g
  rw [← e2]; exact hk
 ·show Ok Q (f id off c cap sz)
  rw [e1]; exact hk
theorem Ok.ld1 {Q : V → Mem → Nat → Prop} {kk : V → A} {id o : Nat} {m : Mem} {cs : List V} {T : TypeId} {v : V} (g : m.get id = some (.cells cs T)) (hid : id ≤ 262143) (hc : cutK o 1 cs = some [v]) (hk : Ok Q (kk v)) :
  Ok Q (Go.Fm.getM m id fun b => cellsOfB b fun cs => bindA (cutK o 1 cs) fun l => wrapC false l kk) := by
 refine Ok.getM g hid ?_
 show Ok Q (bindA (cutK o 1 cs) fun l => wrapC false l kk)
 rw [hc]; exact hk
theorem Ok.ldA {Q : V → Mem → Nat → Prop} {kk : V → A} {id o sz : Nat} {m : Mem} {cs l : List V} {T : TypeId} (g : m.get id = some (.cells cs T)) (hid : id ≤ 262143) (hc : cutK o sz cs = some l) (hk : Ok Q (kk (.agg l))) :
  Ok Q (Go.Fm.getM m id fun b => cellsOfB b fun cs => bindA (cutK o sz cs) fun l => wrapC true l kk) := by
 refine Ok.getM g hid ?_
 show Ok Q (bindA (cutK o sz cs) fun l => wrapC true l kk)
 rw [hc]; exact hk
def firstN : List Int → Int
 | [] => 0
 | a :: r => if a = 0 then firstN r else a
section
variable {E : Env'} {Q : V → Mem → Nat → Prop}
attribute [local irreducible] Ok callK loopK lenL nthL takeL dropL eqBs getM putM appVC evM cutK
theorem first_loop {F : Nat} {call : CE} {kN kR : KKN} {kE : Nat → KKN} {fi : List FI} {id : Nat} {l : List Int} {T : TypeId} {cap : Option Nat} (hl : l.length ≤ 100000) (hid : id ≤ 262143) {m : Mem} {n : Nat} (hg : m.get id = some (.cells (l.map vi) T)) :
  ∀ (r a : List Int) (K : Nat) (t : Tr 3 V), a ++ r = l → firstN l = firstN r → r.length < K → t.get 5 = some (.sl id 0 l.length cap 1) → t.get 6 = some (vi l.length) → t.get 7 = some (vi a.length) →
  (∀ t', firstN l ≠ 0 → t'.get 2 = some (vi (firstN l)) → Ok Q (kR t' m n fi)) → (∀ t', firstN l = 0 → Ok Q (kE 0 t' m n fi)) → Ok Q (loopK (comp E bd21).run F call kN kE kR K t m n fi) := by
 intro r
 induction r with
 | nil =>
  intro a K t ha hf hK t5 t6 t7 H1 H2
  obtain ⟨K, rfl⟩ : ∃ k', K = k' + 1 := ⟨K - 1, by omega⟩
  rw [loopK_succ]
  have e1 : ltIK (a.length : Int) (l.length : Int) = false := ltIK_ff (by rw [← ha]; simp)
  obtain ⟨f_t, rfl⟩ := mkT_form [(5, _), (6, _), (7, _)] ⟨t5, t6, t7, trivial⟩
  conv => arg 2; whnf
  refine Ok.ff e1 ?_
  conv => arg 2; whnf
  exact H2 _ hf
 | cons c r ih =>
  intro a K t ha hf hK t5 t6 t7 H1 H2
  obtain ⟨K, rfl⟩ : ∃ k', K = k' + 1 := ⟨K - 1, by omega⟩
  rw [loopK_succ]
  have hlen : a.length < l.length := by rw [← ha]; simp
  have e1 : ltIK (a.length : Int) (l.length : Int) = true := ltIK_tt (by omega)
  have e2 : Nat.blt a.length l.length = true := Nat.ble_eq_true_of_le hlen
  have e3 : cutK (Nat.add 0 (Nat.mul a.length 1)) 1 (l.map vi) = some [vi c] := cutK_at (by
   have : Nat.add 0 (Nat.mul a.length 1) = a.length := by show 0 + a.length * 1 = _; omega
   rw [this, ← ha]; simp)
  by_cases hc : c = 0
  ·have e4 := neI_f hc
   have hf2 : firstN l = firstN r := by rw [hf]; simp [firstN, hc]
   obtain ⟨f_t, rfl⟩ := mkT_form [(5, _), (6, _), (7, _)] ⟨t5, t6, t7, trivial⟩
   conv => arg 2; whnf
   repeat ((first | refine Ok.getM hg hid ?_ | refine Ok.opt (by with_reducible exact e3) ?_ | refine Ok.T ?_ | refine Ok.F ?_); conv => arg 2; whnf)
   refine ih (a ++ [c]) K _ (by rw [← ha]; simp) hf2 (by simp at hK; omega) ?_ ?_ ?_ H1 H2
   ·rfl
   ·rfl
   ·exact res_int ((wrap1 (by omega)).trans (by simp))
  ·have e4 := neI_t hc
   have hf2 : firstN l = c := by rw [hf]; simp [firstN, hc]
   obtain ⟨f_t, rfl⟩ := mkT_form [(5, _), (6, _), (7, _)] ⟨t5, t6, t7, trivial⟩
   conv => arg 2; whnf
   repeat ((first | refine Ok.getM hg hid ?_ | refine Ok.opt (by with_reducible exact e3) ?_ | refine Ok.T ?_); conv => arg 2; whnf)
   exact H1 _ (by rw [hf2]; exact hc) (by rw [hf2]; rfl)
theorem g21L {g : FuncId} (h : Has E g fn21) {id n : Nat} {m : Mem} {l : List Int} {T : TypeId} {cap : Option Nat} (hg : m.get id = some (.cells (l.map vi) T)) (hid : id ≤ 262143) (hl : l.length ≤ 100000) {K F : Nat} (h0 : K = F + 1) (hF : l.length < F) :
  Ok (fun v m' n' => v = vi (firstN l) ∧ m' = m ∧ n' = n) (callK E K (.f g) [.sl id 0 l.length cap 1] m n) := by
 subst h0
 rw [callK_fn h.h1 h.h2 h.h3]
 conv => arg 2; whnf
 refine first_loop (E := E) hl hid hg l [] F _ rfl rfl hF rfl rfl rfl ?_ ?_
 ·intro t' hn t'2
  obtain ⟨f_tp, rfl⟩ := mkT_form [(2, _)] ⟨t'2, trivial⟩
  conv => arg 2; whnf
  exact Ok.done ⟨rfl, rfl, rfl⟩
 ·intro t' h0
  conv => arg 2; whnf
  exact Ok.done ⟨by rw [h0]; rfl, rfl, rfl⟩
theorem g21six {g : FuncId} (h : Has E g fn21) {id n : Nat} {m : Mem} {a b c d e f : Int} {T : TypeId} {cap : Option Nat} (hg : m.get id = some (.cells [vi a, vi b, vi c, vi d, vi e, vi f] T)) (hid : id ≤ 262143) {K F : Nat} (h0 : K = F + 1) (hF : 6 < F) :
  Ok (fun v m' n' => v = vi (firstN [a, b, c, d, e, f]) ∧ m' = m ∧ n' = n) (callK E K (.f g) [.sl id 0 6 cap 1] m n) := g21L h (l := [a, b, c, d, e, f]) hg hid (by simp) h0 hF
theorem g21two {g : FuncId} (h : Has E g fn21) {id n : Nat} {m : Mem} {a b : Int} {T : TypeId} {cap : Option Nat} (hg : m.get id = some (.cells [vi a, vi b] T)) (hid : id ≤ 262143) {K F : Nat} (h0 : K = F + 1) (hF : 6 < F) :
  Ok (fun v m' n' => v = vi (firstN [a, b]) ∧ m' = m ∧ n' = n) (callK E K (.f g) [.sl id 0 2 cap 1] m n) := g21L h (l := [a, b]) hg hid (by simp) h0 (by simp; omega)
theorem g21three {g : FuncId} (h : Has E g fn21) {id n : Nat} {m : Mem} {a b c : Int} {T : TypeId} {cap : Option Nat} (hg : m.get id = some (.cells [vi a, vi b, vi c] T)) (hid : id ≤ 262143) {K F : Nat} (h0 : K = F + 1) (hF : 6 < F) :
  Ok (fun v m' n' => v = vi (firstN [a, b, c]) ∧ m' = m ∧ n' = n) (callK E K (.f g) [.sl id 0 3 cap 1] m n) := g21L h (l := [a, b, c]) hg hid (by simp) h0 (by simp; omega)
end
def NamesIn (lo hi : Nat) (names : List Bs) (nv : V) (m : Mem) : Prop := (names = [] ∧ nv = .nils) ∨ (names ≠ [] ∧ ∃ i, nv = .sl i 0 names.length none 1 ∧ m.get i = some (.cells (names.map vs') 9) ∧ lo ≤ i ∧ i < hi)
def EvCells (lo hi : Nat) (m : Mem) : List Ev1 → List V → Prop
 | [], cs => cs = []
 | e :: es, cs => ∃ nv r, cs = vi e.num :: vs' e.ev.kind :: nv :: .nils :: vs' e.ev.text :: r ∧ NamesIn lo hi e.ev.names nv m ∧ EvCells lo hi m es r
def EvsAt (lo hi : Nat) (es : List Ev1) (s : V) (m : Mem) : Prop := (es = [] ∧ s = .nils) ∨ ∃ i cs, es ≠ [] ∧ s = .sl i 0 es.length none 5 ∧ m.get i = some (.cells cs 25) ∧ EvCells lo hi m es cs ∧ lo ≤ i ∧ i < hi
theorem NamesIn.keep {lo hi hi' : Nat} {names : List Bs} {nv : V} {m m' : Mem} (h : NamesIn lo hi names nv m) (hh : hi ≤ hi') (hm : ∀ j b, lo ≤ j → j < hi → m.get j = some (.cells b 9) → m'.get j = some (.cells b 9)) : NamesIn lo hi' names nv m' := by
 rcases h with h | ⟨h0, i, h1, h2, h3, h4⟩
 ·exact .inl h
 ·exact .inr ⟨h0, i, h1, hm i _ h3 h4 h2, h3, by omega⟩
theorem EvCells.keep {lo hi hi' : Nat} {m m' : Mem} (hh : hi ≤ hi') (hm : ∀ j b, lo ≤ j → j < hi → m.get j = some (.cells b 9) → m'.get j = some (.cells b 9)) : ∀ {es : List Ev1} {cs : List V}, EvCells lo hi m es cs → EvCells lo hi' m' es cs
 | [], _, h => h
 | e :: es, cs, ⟨nv, r, h1, h2, h3⟩ => ⟨nv, r, h1, h2.keep hh hm, h3.keep hh hm⟩
theorem EvCells.len {lo hi : Nat} {m : Mem} : ∀ {es : List Ev1} {cs : List V}, EvCells lo hi m es cs → cs.length = es.length * 5
 | [], _, h => by rw [show _ = [] from h]; rfl
 | e :: es, cs, ⟨nv, r, h1, h2, h3⟩ => by
  rw [h1]
  have := h3.len
  simp; omega
theorem EvCells.snoc {lo hi : Nat} {m : Mem} {e : Ev1} {nv : V} (hn : NamesIn lo hi e.ev.names nv m) : ∀ {es : List Ev1} {cs : List V}, EvCells lo hi m es cs → EvCells lo hi m (es ++ [e]) (cs ++ [vi e.num, vs' e.ev.kind, nv, .nils, vs' e.ev.text])
 | [], cs, h => by
  rw [show cs = [] from h]
  exact ⟨nv, [], rfl, hn, rfl⟩
 | e' :: es, cs, ⟨nv', r, h1, h2, h3⟩ => by
  refine ⟨nv', _, ?_, h2, h3.snoc hn⟩
  rw [h1]; rfl
theorem Ok.appE {Q : V → Mem → Nat → Prop} {lo hi : Nat} {m : Mem} {n : Nat} {s : V} {es : List Ev1} {e : Ev1} {nv : V} {kt : V → Mem → Nat → A} (hs : EvsAt lo hi es s m) (hnv : NamesIn lo n e.ev.names nv m) (hlo : lo ≤ n) (hhi : hi ≤ n) (hr : es.length ≤ 100000) (hn : n ≤ 262143)
  (H : ∀ s' m', EvsAt lo (n + 1) (es ++ [e]) s' m' → (∀ j, j < lo → m'.get j = m.get j) → Ok Q (kt s' m' (n + 1))) : Ok Q (appVC m n 5 88 25 s 1 [vi e.num, vs' e.ev.kind, nv, .nils, vs' e.ev.text] kt) := by
 rcases hs with ⟨rfl, rfl⟩ | ⟨i, cs, h0, rfl, hg, hc, hlo1, hhi1⟩
 ·show Ok Q (Bool.rec (motive := fun _ => A) (guardA (roomOk 1 88) (newC m n _ 25 (.sl n 0 1 none 5) kt)) (kt .nils m n) (Nat.beq 1 0))
  refine Ok.putM hn fun m' hm => ?_
  have hE : EvsAt lo (n + 1) ([] ++ [e]) (.sl n 0 1 none 5) m' := .inr ⟨n, [vi e.num, vs' e.ev.kind, nv, .nils, vs' e.ev.text], by simp, rfl, ?_, ?_, hlo, by omega⟩
  ·exact H _ _ hE fun j hj => by rw [hm, if_neg (by omega)]
  ·rw [hm, if_pos rfl]
  ·exact EvCells.snoc (es := []) (cs := []) (hnv.keep (by omega) fun j b _ hj h => by rw [hm, if_neg (by omega)]; exact h) rfl
 ·have hl : 0 < es.length := by
   cases es with
   | nil => exact absurd rfl h0
   | cons a r => simp
  have hcl := hc.len
  have b1 : Nat.beq (Nat.add es.length 1) 0 = false := rfl
  have b2 : Nat.beq es.length 0 = false := by
   cases hb : Nat.beq es.length 0 with
   | false => rfl
   | true => have := Nat.eq_of_beq_eq_true hb; omega
  have b3 : roomOk (Nat.add es.length 1) 88 = true := by
   show roomOk (es.length + 1) 88 = true
   simp [roomOk]; omega
  have hall : cutK 0 (Nat.mul es.length 5) cs = some cs := by
   rw [cutK_eq]
   have e : Nat.mul es.length 5 = cs.length := hcl.symm
   rw [e, if_pos (by omega)]
   simp [cut]
  unfold appVC
  refine Ok.tt b3 ?_
  unfold elsC
  refine Ok.ff b2 ?_
  refine Ok.getM hg (by omega) ?_
  refine Ok.opt hall ?_
  refine Ok.getM hg (by omega) ?_
  refine Ok.putM (by omega) fun m1 hm1 => ?_
  refine Ok.putM hn fun m2 hm2 => ?_
  have hk : ∀ j b, lo ≤ j → j < n → m.get j = some (.cells b 9) → m2.get j = some (.cells b 9) := by
   intro j b _ hj hb
   rw [hm2, if_neg (by omega), hm1, if_neg]
   ·exact hb
   ·rintro rfl
    rw [hg] at hb
    injection hb with hb; injection hb with _ hb; cases hb
  have hE : EvsAt lo (n + 1) (es ++ [e]) (.sl n 0 (es.length + 1) none 5) m2 := .inr ⟨n, cs ++ [vi e.num, vs' e.ev.kind, nv, .nils, vs' e.ev.text], by simp, ?_, ?_, ?_, hlo, by omega⟩
  ·exact H _ _ hE fun j hj => by rw [hm2, if_neg (by omega), hm1, if_neg (by omega)]
  ·simp
  ·rw [hm2, if_pos rfl]; rfl
  ·exact EvCells.snoc (hnv.keep (by omega) hk) (hc.keep (by omega) fun j b h1 h2 => hk j b h1 (by omega))
end Go.Fm
set_option maxHeartbeats 8000000
namespace Go.Fm
theorem EvsAt.keep {lo hi hi' : Nat} {es : List Ev1} {s : V} {m m' : Mem} (h : EvsAt lo hi es s m) (hh : hi ≤ hi') (hm : ∀ j, lo ≤ j → j < hi → m'.get j = m.get j) : EvsAt lo hi' es s m' := by
 rcases h with h | ⟨i, cs, h0, h1, h2, h3, h4, h5⟩
 ·exact .inl h
 ·exact .inr ⟨i, cs, h0, h1, by rw [hm i h4 h5]; exact h2, h3.keep hh fun j b g1 g2 g3 => by rw [hm j g1 g2]; exact g3, h4, by omega⟩
theorem decodeS_err {f : Nat → Bs} {s : Bs} {b : Nat} (h : decodeS f s = .inr b) : b ≠ 0 := by
 unfold decodeS at h
 repeat' split at h
 all_goals first | (injection h with h; omega) | cases h
theorem dec_cases {ln : Bs} (hl : ln.length ≤ 100000) (m : Mem) {n : Nat} (hn : n ≤ 200000) : ∃ (e : Ev1) (nv : V) (err : Int) (md : Mem) (nd : Nat), tEv decO [vs' ln] m n = some (.tup [.agg [vi e.num, vs' e.ev.kind, nv, .nils, vs' e.ev.text], vi err], md, nd) ∧ n ≤ nd ∧ nd ≤ n + 1 ∧ (∀ j, j ≠ n → md.get j = m.get j) ∧ NamesIn n nd e.ev.names nv md ∧
  ((err = 0 ∧ decodeS Lib.decDigits ln = .inl e) ∨ ∃ b : Nat, err = (b : Int) ∧ b ≠ 0 ∧ decodeS Lib.decDigits ln = .inr b ∧ e = ⟨0, ⟨[], [], []⟩⟩) ∧ allOne [vi e.num, vs' e.ev.kind, nv, .nils, vs' e.ev.text] = true := by
 cases hd : decodeS Lib.decDigits ln with
 | inr b =>
  have ho : decO ln = ⟨[], 0, [], [], vi b⟩ := by unfold decO; rw [hd]
  refine ⟨⟨0, ⟨[], [], []⟩⟩, .nils, b, m, n, ?_, Nat.le_refl _, by omega, fun _ _ => rfl, .inl ⟨rfl, rfl⟩, .inr ⟨b, rfl, decodeS_err hd, rfl, rfl⟩, rfl⟩
  rw [tEv_nil hl (by rw [ho]), ho]; rfl
 | inl e =>
  have ho : decO ln = ⟨e.ev.names, e.num, e.ev.kind, e.ev.text, vi 0⟩ := by unfold decO; rw [hd]
  by_cases hnm : e.ev.names = []
  ·refine ⟨e, .nils, 0, m, n, ?_, Nat.le_refl _, by omega, fun _ _ => rfl, .inl ⟨hnm, rfl⟩, .inl ⟨rfl, rfl⟩, rfl⟩
   rw [tEv_nil hl (by rw [ho]; exact hnm), ho]; rfl
  ·have hi : n / 8 / 8 / 8 / 8 / 8 / 8 = 0 := by omega
   have hg := Tr.get_set (setM_ok m n (some (.cells (e.ev.names.map vs') 9)) hi)
   refine ⟨e, .sl n 0 e.ev.names.length none 1, 0, setM m n (some (.cells (e.ev.names.map vs') 9)), n + 1, ?_, by omega, by omega, fun j hj => by rw [hg, if_neg hj], .inr ⟨hnm, n, rfl, by rw [hg, if_pos rfl], Nat.le_refl _, by omega⟩, .inl ⟨rfl, rfl⟩, rfl⟩
   rw [tEv_set hl (by rw [ho]; exact hnm) m n hi, ho]; rfl
theorem recoverS_nil {f : Nat → Bs} {k : Nat} {es : List Ev1} {p : Nat} : recoverS f (k + 1) es p [] = (es, p, 0) := by simp [recoverS]
theorem recoverS_torn {f : Nat → Bs} {k : Nat} {es : List Ev1} {p : Nat} {r : Bs} (h : r ≠ []) (h2 : (cutS 10 r).2.2 = false) : recoverS f (k + 1) es p r = (es, p, 31) := by simp [recoverS, h, h2]
theorem recoverS_err {f : Nat → Bs} {k : Nat} {es : List Ev1} {p : Nat} {r : Bs} {b : Nat} (h : r ≠ []) (h2 : (cutS 10 r).2.2 = true) (hd : decodeS f (cutS 10 r).1 = .inr b) : recoverS f (k + 1) es p r = (es, p, b) := by simp [recoverS, h, h2, hd]
theorem recoverS_many {f : Nat → Bs} {k : Nat} {es : List Ev1} {p : Nat} {r : Bs} {e : Ev1} (h : r ≠ []) (h2 : (cutS 10 r).2.2 = true) (hd : decodeS f (cutS 10 r).1 = .inl e) (h3 : 1000 ≤ es.length) : recoverS f (k + 1) es p r = (es, p, 5) := by simp [recoverS, h, h2, hd, h3]
theorem recoverS_next {f : Nat → Bs} {k : Nat} {es : List Ev1} {p : Nat} {r : Bs} {e : Ev1} (h : r ≠ []) (h2 : (cutS 10 r).2.2 = true) (hd : decodeS f (cutS 10 r).1 = .inl e) (h3 : es.length < 1000) : recoverS f (k + 1) es p r = recoverS f k (es ++ [e]) (p + (cutS 10 r).1.length + 1) (cutS 10 r).2.1 := by
 have : ¬ 1000 ≤ es.length := by omega
 simp [recoverS, h, h2, hd, this]
section
variable {E : Env'} {Q : V → Mem → Nat → Prop}
attribute [local irreducible] Ok callK loopK lenL nthL takeL dropL eqBs getM putM appVC evM
theorem at_sub {log rest : Bs} {p : Nat} (h : p + rest.length = log.length) (hl : log.length ≤ 20000) : wrapK .i64 ((Int.ofNat (lenL log)).sub (Int.ofNat (lenL rest))) = (p : Int) := by
 rw [lenL_eq, lenL_eq]
 have e : (Int.ofNat log.length).sub (Int.ofNat rest.length) = (p : Int) := by
  show (log.length : Int) - (rest.length : Int) = (p : Int); omega
 rw [e]; exact wrapS (by omega) (by omega)
theorem EvsAt.len {lo hi : Nat} {es : List Ev1} {s : V} {m : Mem} (h : EvsAt lo hi es s m) : LenV s es.length := by
 rcases h with ⟨rfl, rfl⟩ | ⟨i, cs, _, h, _⟩
 ·exact .inl ⟨rfl, rfl⟩
 ·exact .inr ⟨_, _, _, _, h⟩
theorem rec5_loop (h19 : E.nat.get 31 = some tCut1) (n20 : E.nat.get 8 = none) (h20 : E.mnat.get 8 = some (tEv decO)) (h22 : E.nat.get 30 = some tWhen) (h21 : Has E 29 fn21) {F F1 : Nat} (e1 : F = F1 + 1) (hF1 : 6 < F1) {kN kR : KKN} {kE : Nat → KKN} {fi : List FI} {log : Bs} (hlog : log.length ≤ 20000) {N : Nat} (hN : N ≤ 200000) {lo : Nat} {m0 : Mem} :
  ∀ (k0 : Nat) (rest : Bs) (es : List Ev1) (s : V) (p K : Nat) (t : Tr 3 V) (m : Mem) (n : Nat), rest.length ≤ k0 → rest.length < K → t.get 0 = some (vs' log) → t.get 5 = some s → t.get 6 = some (vs' rest) → EvsAt lo n es s m → lo ≤ n → (∀ j, j < lo → m.get j = m0.get j) → p + rest.length = log.length → es.length ≤ p → n + 6 * rest.length + 10 ≤ N →
  (∀ t' m' n' s', EvsAt lo n' (recoverS Lib.decDigits (k0 + 1) es p rest).1 s' m' → lo ≤ n' ∧ n' ≤ N → (∀ j, j < lo → m'.get j = m0.get j) → t'.get 2 = some s' → t'.get 3 = some (vi (recoverS Lib.decDigits (k0 + 1) es p rest).2.1) → t'.get 4 = some (vi (recoverS Lib.decDigits (k0 + 1) es p rest).2.2) → Ok Q (kR t' m' n' fi)) →
  (∀ t' m' n' s', EvsAt lo n' (recoverS Lib.decDigits (k0 + 1) es p rest).1 s' m' → lo ≤ n' ∧ n' ≤ N → (∀ j, j < lo → m'.get j = m0.get j) → (recoverS Lib.decDigits (k0 + 1) es p rest).2.1 = log.length → (recoverS Lib.decDigits (k0 + 1) es p rest).2.2 = 0 → t'.get 0 = some (vs' log) → t'.get 5 = some s' → Ok Q (kE 0 t' m' n' fi)) →
  Ok Q (loopK (comp E bd5).run F (callK E F) kN kE kR K t m n fi) := by
 have stop : ∀ (k0 : Nat) (es : List Ev1) (s : V) (p K : Nat) (t : Tr 3 V) (m : Mem) (n : Nat), 0 < K → t.get 0 = some (vs' log) → t.get 5 = some s → t.get 6 = some (vs' []) →
   (∀ t', t'.get 0 = some (vs' log) → t'.get 5 = some s → Ok Q (kE 0 t' m n fi)) → Ok Q (loopK (comp E bd5).run F (callK E F) kN kE kR K t m n fi) := by
  intro k0 es s p K t m n hK t0 t5 t6 H
  obtain ⟨K, rfl⟩ : ∃ k', K = k' + 1 := ⟨K - 1, by omega⟩
  rw [loopK_succ]
  obtain ⟨f_t, rfl⟩ := mkT_form [(0, _), (5, _), (6, _)] ⟨t0, t5, t6, trivial⟩
  have e0 : (nB (eqBs ([] : Bs) [])) = false := by rw [eqB_t rfl]
  conv => arg 2; whnf
  repeat ((first | refine Ok.F ?_); conv => arg 2; whnf)
  refine H _ ?_ ?_
  ·rfl
  ·rfl
 intro k0
 induction k0 with
 | zero =>
  intro rest es s p K t m n hk hK t0 t5 t6 hs hlo hm0 hp hpl hn H1 H2
  obtain rfl : rest = [] := List.length_eq_zero_iff.1 (by omega)
  rw [recoverS_nil] at H1 H2
  exact stop 0 es s p K t m n hK t0 t5 t6 fun t' g0 g5 => H2 _ _ _ s hs (by omega) hm0 (by simpa using hp) rfl g0 g5
 | succ k0 ih =>
  intro rest es s p K t m n hk hK t0 t5 t6 hs hlo hm0 hp hpl hn H1 H2
  by_cases hr0 : rest = []
  ·subst hr0
   rw [recoverS_nil] at H1 H2
   exact stop 0 es s p K t m n hK t0 t5 t6 fun t' g0 g5 => H2 _ _ _ s hs (by omega) hm0 (by simpa using hp) rfl g0 g5
  obtain ⟨K, rfl⟩ : ∃ k', K = k' + 1 := ⟨K - 1, by omega⟩
  have e0 : (nB (eqBs rest [])) = true := by rw [eqB_f hr0]
  have hat := at_sub hp hlog
  obtain ⟨⟨ln, more, mo⟩, hc⟩ : ∃ q, cutS 10 rest = q := ⟨_, rfl⟩
  have hcl := cut_le hc
  have e19 := tCut1_at hc (by omega)
  cases mo with
  | false =>
   rw [recoverS_torn hr0 (by rw [hc])] at H1 H2
   rw [loopK_succ]
   obtain ⟨f_t, rfl⟩ := mkT_form [(0, _), (5, _), (6, _)] ⟨t0, t5, t6, trivial⟩
   conv => arg 2; whnf
   repeat ((first | refine Ok.T ?_ | refine Ok.N h19 e1 e19 ?_); conv => arg 2; whnf)
   refine H1 _ _ _ s hs (by omega) hm0 ?_ ?_ ?_
   ·rfl
   ·exact res_int hat
   ·rfl
  | true =>
   have hcl2 : ln.length + 1 + more.length = rest.length := by
    have h1 := (cutS_found (c := 10) (l := rest) (by rw [hc])).1
    rw [hc] at h1
    have h2 := congrArg List.length h1
    simp only [List.length_append, List.length_cons] at h2
    omega
   obtain ⟨e, nv, err, md, nd, hdec, hnd1, hnd2, hmd, hnm, hres, hall⟩ := dec_cases (ln := ln) (by omega) m (n := n) (by omega)
   have hs1 : EvsAt lo nd es s md := hs.keep hnd1 fun j _ hj => hmd j (by omega)
   have hlen := hs.len
   obtain ⟨w, hw⟩ : ∃ w : Int, w = (if leIK 1000 (Int.ofNat es.length) = true then 5 else 0) := ⟨_, rfl⟩
   have e22 : tWhen [.bool (leIK 1000 (Int.ofNat es.length)), vi 5] = some (vi w) := by rw [hw]; rfl
   have key : (firstN [err, w] = 0 ∧ recoverS Lib.decDigits (k0 + 1 + 1) es p rest = recoverS Lib.decDigits (k0 + 1) (es ++ [e]) (p + ln.length + 1) more) ∨ ∃ er : Nat, firstN [err, w] ≠ 0 ∧ firstN [err, w] = (er : Int) ∧ recoverS Lib.decDigits (k0 + 1 + 1) es p rest = (es, p, er) := by
    rcases hres with ⟨rfl, hdc⟩ | ⟨b, rfl, hb0, hdc, _⟩
    ·by_cases hmany : 1000 ≤ es.length
     ·have : leIK 1000 (Int.ofNat es.length) = true := leIK_tt (by show (1000 : Int) ≤ (es.length : Int); omega)
      rw [this, if_pos rfl] at hw
      subst hw
      exact .inr ⟨5, by decide, rfl, recoverS_many hr0 (by rw [hc]) (by rw [hc]; exact hdc) hmany⟩
     ·have : leIK 1000 (Int.ofNat es.length) = false := leIK_ff (by show (es.length : Int) < 1000; omega)
      rw [this, if_neg (by simp)] at hw
      subst hw
      exact .inl ⟨rfl, by rw [recoverS_next hr0 (by rw [hc]) (by rw [hc]; exact hdc) (by omega), hc]⟩
    ·have hf : firstN [(b : Int), w] = (b : Int) := by simp only [firstN]; rw [if_neg (by omega)]
     exact .inr ⟨b, by rw [hf]; omega, hf, recoverS_err hr0 (by rw [hc]) (by rw [hc]; exact hdc)⟩
   obtain ⟨fb, hfb⟩ : ∃ z, firstN [err, w] = z := ⟨_, rfl⟩
   rw [hfb] at key
   rw [loopK_succ]
   obtain ⟨f_t, rfl⟩ := mkT_form [(0, _), (5, _), (6, _)] ⟨t0, t5, t6, trivial⟩
   conv => arg 2; whnf
   repeat ((first | refine Ok.T ?_ | refine Ok.N h19 e1 e19 ?_); conv => arg 2; whnf)
   refine Ok.opt (callK_mnatE n20 h20 e1 hdec) ?_
   conv => arg 2; whnf
   refine Ok.putM (by omega) fun m1 hm1 => ?_
   have g1 : m1.get nd = some (.cells [vi 0, vs' [], .nils, .nils, vs' []] 25) := by (rw [hm1, if_pos rfl]) <;> rfl
   conv => arg 2; whnf
   refine Ok.getM g1 (by omega) ?_
   conv => arg 2; whnf
   refine Ok.tt hall ?_
   conv => arg 2; whnf
   refine Ok.putM (by omega) fun m2 hm2 => ?_
   have g2 : m2.get nd = some (.cells [vi e.num, vs' e.ev.kind, nv, .nils, vs' e.ev.text] 25) := by (rw [hm2, if_pos rfl]) <;> rfl
   conv => arg 2; whnf
   repeat ((first | refine Ok.lenV hlen rfl (fun _ _ _ _ => rfl) rfl ?_ | refine Ok.N h22 e1 e22 ?_); conv => arg 2; whnf)
   refine Ok.putM (by omega) fun m3 hm3 => ?_
   have g3 : m3.get (nd + 1) = some (.cells [vi err, vi w] 29) := by (rw [hm3, if_pos rfl]) <;> rfl
   have g4 : m3.get nd = some (.cells [vi e.num, vs' e.ev.kind, nv, .nils, vs' e.ev.text] 25) := by rw [hm3, if_neg (by omega)]; exact g2
   have hk3 : ∀ j, j < nd → m3.get j = md.get j := fun j hj => by rw [hm3, if_neg (by omega), hm2, if_neg (by omega), hm1, if_neg (by omega)]
   conv => arg 2; whnf
   refine Ok.sub (g21two h21 g3 (by omega) e1 hF1) fun v mz nz hq => ?_
   obtain ⟨hv, rfl, rfl⟩ := hq
   rw [hfb] at hv
   subst hv
   conv => arg 2; whnf
   rcases key with ⟨rfl, hrc⟩ | ⟨er, her, rfl, hrc⟩
   ·rw [hrc] at H1 H2
    conv => arg 2; whnf
    refine Ok.getM g4 (by omega) ?_
    conv => arg 2; whnf
    refine Ok.putM (by omega) fun m4 hm4 => ?_
    have g5 : m4.get (nd + 2) = some (.cells [vi e.num, vs' e.ev.kind, nv, .nils, vs' e.ev.text] 25) := by (rw [hm4, if_pos rfl]) <;> rfl
    have hk4 : ∀ j, j < nd → m4.get j = md.get j := fun j hj => by rw [hm4, if_neg (by omega), hk3 j hj]
    have hs4 : EvsAt lo nd es s m4 := hs1.keep (Nat.le_refl _) fun j _ hj => hk4 j hj
    have hnm4 : NamesIn lo (nd + 3) e.ev.names nv m4 := by
     rcases hnm with h | ⟨h0, i, h1, h2, h3, h4⟩
     ·exact .inl h
     ·exact .inr ⟨h0, i, h1, by rw [hk4 i h4]; exact h2, by omega, by omega⟩
    conv => arg 2; whnf
    refine Ok.getM g5 (by omega) ?_
    conv => arg 2; whnf
    refine Ok.tt hall ?_
    refine Ok.appE hs4 hnm4 (by omega) (by omega) (by omega) (by omega) fun s' m5 hs5 hk5 => ?_
    conv => arg 2; whnf
    refine ih more (es ++ [e]) s' (p + ln.length + 1) K _ m5 _ (by omega) (by omega) ?_ ?_ ?_ hs5 (by omega) (fun j hj => by rw [hk5 j hj, hk4 j (by omega), hmd j (by omega), hm0 j hj]) (by omega) (by simp; omega) (by omega) H1 H2
    ·rfl
    ·rfl
    ·rfl
   ·rw [hrc] at H1 H2
    have en := neI_t her
    repeat ((first | refine Ok.T ?_); conv => arg 2; whnf)
    refine H1 _ _ _ s (hs1.keep (hi' := nd + 2) (by omega) fun j _ hj => hk3 j hj) (by omega) (fun j hj => by rw [hk3 j (by omega), hmd j (by omega), hm0 j hj]) ?_ ?_ ?_
    ·rfl
    ·exact res_int hat
    ·rfl
end
end Go.Fm
set_option maxHeartbeats 8000000
namespace Go.Fm
theorem cut10_app {cur r : Bs} (h : (10 : UInt8) ∉ cur) : cutS 10 (cur ++ 10 :: r) = (cur, r, true) := cutS_app r h
section
variable {E : Env'} {Q : V → Mem → Nat → Prop}
attribute [local irreducible] Ok callK loopK lenL nthL takeL dropL eqBs getM putM appVC evM
theorem neB_t {c : UInt8} (h : c ≠ 10) : (nB (eqIK (Int.ofNat c.toNat) 10)) = true := by
 have e : eqIK (Int.ofNat c.toNat) 10 = false := u8_f (u8_ne h)
 rw [e]
theorem neB_f {c : UInt8} (h : c = 10) : (nB (eqIK (Int.ofNat c.toNat) 10)) = false := by
 have e : eqIK (Int.ofNat c.toNat) 10 = true := u8_t (by rw [h]; rfl)
 rw [e]
theorem rec6_loop (n23 : E.nat.get 13 = none) (h23 : E.mnat.get 13 = some (tEv decO)) {F F1 : Nat} (e1 : F = F1 + 1) {kN kR : KKN} {kE : Nat → KKN} {fi : List FI} {log : Bs} (hlog : log.length ≤ 20000) {lo N : Nat} {m0 : Mem} (hN : N ≤ 195000) :
  ∀ (r cur : Bs) (k0 : Nat) (es : List Ev1) (s : V) (p i K : Nat) (t : Tr 3 V) (m : Mem) (n : Nat), r.length ≤ k0 → r.length < K → log.drop p = cur ++ r → p ≤ log.length → i = p + cur.length → (10 : UInt8) ∉ cur → t.get 0 = some (vs' log) → t.get 5 = some s → t.get 6 = some (vi p) → t.get 7 = some (vi i) → EvsAt lo n es s m → es.length ≤ 1000 → lo ≤ n → n + 6 * r.length ≤ N → (∀ j, j < lo → m.get j = m0.get j) →
  (∀ t' m' n' s', EvsAt lo n' (recoverS Lib.decDigits (k0 + 1) es p (cur ++ r)).1 s' m' → lo ≤ n' ∧ n' ≤ N + 5000 → (∀ j, j < lo → m'.get j = m0.get j) → t'.get 2 = some s' → t'.get 3 = some (vi (recoverS Lib.decDigits (k0 + 1) es p (cur ++ r)).2.1) → t'.get 4 = some (vi (recoverS Lib.decDigits (k0 + 1) es p (cur ++ r)).2.2) → Ok Q (kR t' m' n' fi)) →
  (∀ t' m' n' s' (p' : Nat), EvsAt lo n' (recoverS Lib.decDigits (k0 + 1) es p (cur ++ r)).1 s' m' → lo ≤ n' ∧ n' ≤ N + 5000 → (∀ j, j < lo → m'.get j = m0.get j) → (recoverS Lib.decDigits (k0 + 1) es p (cur ++ r)).2.1 = p' → p' ≤ log.length → (recoverS Lib.decDigits (k0 + 1) es p (cur ++ r)).2.2 = (if p' < log.length then 31 else 0) → t'.get 0 = some (vs' log) → t'.get 5 = some s' → t'.get 6 = some (vi p') → Ok Q (kE 0 t' m' n' fi)) →
  Ok Q (loopK (comp E bd6).run F (callK E F) kN kE kR K t m n fi) := by
 intro r
 induction r with
 | nil =>
  intro cur k0 es s p i K t m n hk hK hdr hpl hi hcur t0 t5 t6 t7 hs hel hlo hn hm0 H1 H2
  obtain ⟨K, rfl⟩ : ∃ k', K = k' + 1 := ⟨K - 1, by omega⟩
  have hlen : log.length = p + cur.length := by
   have := congrArg List.length hdr
   simp only [List.length_drop, List.append_nil] at this
   omega
  have elt := lt_f (l := log) (i := i) (by omega)
  have hR : recoverS Lib.decDigits (k0 + 1) es p (cur ++ []) = (es, p, if p < log.length then 31 else 0) := by
   rw [List.append_nil]
   by_cases hc : cur = []
   ·rw [hc, recoverS_nil, if_neg (by rw [hlen, hc]; simp)]
   ·rw [recoverS_torn hc (by rw [cutS_not hcur]), if_pos]
    have : 0 < cur.length := by
     cases cur with
     | nil => exact absurd rfl hc
     | cons a b => simp
    omega
  rw [hR] at H2
  rw [loopK_succ]
  obtain ⟨f_t, rfl⟩ := mkT_form [(0, _), (5, _), (6, _), (7, _)] ⟨t0, t5, t6, t7, trivial⟩
  conv => arg 2; whnf
  repeat ((first | refine Ok.F ?_); conv => arg 2; whnf)
  refine H2 _ _ _ s p hs (by omega) hm0 rfl hpl rfl ?_ ?_ ?_
  ·rfl
  ·rfl
  ·rfl
 | cons c r ih =>
  intro cur k0 es s p i K t m n hk hK hdr hpl hi hcur t0 t5 t6 t7 hs hel hlo hn hm0 H1 H2
  obtain ⟨K, rfl⟩ : ∃ k', K = k' + 1 := ⟨K - 1, by omega⟩
  simp only [List.length_cons] at hk hK hn
  have hlen : log.length = p + cur.length + (r.length + 1) := by
   have := congrArg List.length hdr
   simp only [List.length_drop, List.length_append, List.length_cons] at this
   omega
  have elt := lt_t (l := log) (i := i) (by omega)
  have hnth : nthL log i = some c := by
   rw [nthL_eq]
   have h1 : (log.drop p)[cur.length]? = some c := by rw [hdr]; simp
   rw [List.getElem?_drop] at h1
   rw [hi]; exact h1
  have hdr1 : log.drop (i + 1) = r := by
   have h1 : (log.drop p).drop (cur.length + 1) = r := by
    rw [hdr]; simp
   rw [List.drop_drop] at h1
   have e : p + (cur.length + 1) = i + 1 := by omega
   rw [e] at h1; exact h1
  have hw1 : wrapK .i64 ((i : Int).add 1) = ((i + 1 : Nat) : Int) := wrap1 (by omega)
  by_cases hc : c = 10
  ·have hcn := neB_f hc
   subst hc
   have hsl : takeL (Nat.sub (toN (i : Int)) (toN (p : Int))) (dropL (toN (p : Int)) log) = cur := by
    rw [sl_mid, hdr]
    have e : i - p = cur.length := by omega
    rw [e]; simp
   have f1 : leIK 0 (p : Int) = true := le_0 p
   have f2 : leIK (p : Int) (i : Int) = true := leIK_tt (by omega)
   have f3 : leIK (i : Int) (Int.ofNat (lenL log)) = true := le_len (by omega)
   have hcl : cur.length ≤ 100000 := by omega
   have hcut := cut10_app (r := r) hcur
   have hne : cur ++ 10 :: r ≠ [] := by simp
   obtain ⟨e, nv, err, md, nd, hdec, hnd1, hnd2, hmd, hnm, hres, hall⟩ := dec_cases (ln := cur) hcl m (n := n) (by omega)
   have hs1 : EvsAt lo nd es s md := hs.keep hnd1 fun j _ hj => hmd j (by omega)
   have hlen' := hs.len
   have hm0d : ∀ j, j < lo → md.get j = m0.get j := fun j hj => by rw [hmd j (by omega)]; exact hm0 j hj
   rw [loopK_succ]
   obtain ⟨f_t, rfl⟩ := mkT_form [(0, _), (5, _), (6, _), (7, _)] ⟨t0, t5, t6, t7, trivial⟩
   conv => arg 2; whnf
   repeat ((first | refine Ok.T ?_ | refine Ok.F ?_ | refine Ok.opt (by with_reducible exact hnth) ?_ | refine Ok.opt (callK_mnatE n23 h23 e1 (vs := [V.str ⟨⟨takeL (Nat.sub (toN (i : Int)) (toN (p : Int))) (dropL (toN (p : Int)) log)⟩⟩]) (by rw [hsl]; exact hdec)) ?_); conv => arg 2; whnf)
   refine Ok.putM (by omega) fun m1 hm1 => ?_
   have g1 : m1.get nd = some (.cells [vi 0, vs' [], .nils, .nils, vs' []] 25) := by (rw [hm1, if_pos rfl]) <;> rfl
   conv => arg 2; whnf
   refine Ok.getM g1 (by omega) ?_
   conv => arg 2; whnf
   refine Ok.tt hall ?_
   conv => arg 2; whnf
   refine Ok.putM (by omega) fun m2 hm2 => ?_
   have g2 : m2.get nd = some (.cells [vi e.num, vs' e.ev.kind, nv, .nils, vs' e.ev.text] 25) := by (rw [hm2, if_pos rfl]) <;> rfl
   have hk2 : ∀ j, j < nd → m2.get j = md.get j := fun j hj => by rw [hm2, if_neg (by omega), hm1, if_neg (by omega)]
   have hs2 : EvsAt lo (nd + 1) es s m2 := hs1.keep (by omega) fun j _ hj => hk2 j hj
   have hf2 : ∀ j, j < lo → m2.get j = m0.get j := fun j hj => by rw [hk2 j (by omega)]; exact hm0d j hj
   rcases hres with ⟨rfl, hdc⟩ | ⟨b, rfl, hb0, hdc, _⟩
   ·by_cases hmany : es.length = 1000
    ·rw [recoverS_many hne (by rw [hcut]) (by rw [hcut]; exact hdc) (by omega)] at H1 H2
     have q1 : eqIK (Int.ofNat es.length) 1000 = true := eqIK_tt (by show (es.length : Int) = 1000; omega)
     conv => arg 2; whnf
     repeat ((first | refine Ok.T ?_ | refine Ok.lenV hlen' rfl (fun _ _ _ _ => rfl) rfl ?_); conv => arg 2; whnf)
     refine H1 _ _ _ s hs2 (by omega) hf2 ?_ ?_ ?_
     ·rfl
     ·rfl
     ·rfl
    ·rw [recoverS_next hne (by rw [hcut]) (by rw [hcut]; exact hdc) (by omega)] at H1 H2
     rw [hcut] at H1 H2
     have hp1 : p + (cur, r, true).1.length + 1 = i + 1 := by simp; omega
     rw [hp1] at H1 H2
     obtain ⟨k0, rfl⟩ : ∃ k', k0 = k' + 1 := ⟨k0 - 1, by omega⟩
     have q1 : eqIK (Int.ofNat es.length) 1000 = false := eqIK_ff (by show ¬ (es.length : Int) = 1000; omega)
     conv => arg 2; whnf
     repeat ((first | refine Ok.F ?_ | refine Ok.lenV hlen' rfl (fun _ _ _ _ => rfl) rfl ?_); conv => arg 2; whnf)
     refine Ok.getM g2 (by omega) ?_
     conv => arg 2; whnf
     refine Ok.putM (by omega) fun m4 hm4 => ?_
     have g5 : m4.get (nd + 1) = some (.cells [vi e.num, vs' e.ev.kind, nv, .nils, vs' e.ev.text] 25) := by (rw [hm4, if_pos rfl]) <;> rfl
     have hk4 : ∀ j, j < nd → m4.get j = md.get j := fun j hj => by rw [hm4, if_neg (by omega), hk2 j hj]
     have hs4 : EvsAt lo nd es s m4 := hs1.keep (Nat.le_refl _) fun j _ hj => hk4 j hj
     have hnm4 : NamesIn lo (nd + 2) e.ev.names nv m4 := by
      rcases hnm with h | ⟨h0, i, h1, h2, h3, h4⟩
      ·exact .inl h
      ·exact .inr ⟨h0, i, h1, by rw [hk4 i h4]; exact h2, by omega, by omega⟩
     conv => arg 2; whnf
     refine Ok.getM g5 (by omega) ?_
     conv => arg 2; whnf
     refine Ok.tt hall ?_
     refine Ok.appE hs4 hnm4 (by omega) (by omega) (by omega) (by omega) fun s' m5 hs5 hk5 => ?_
     conv => arg 2; whnf
     refine ih [] k0 (es ++ [e]) s' (i + 1) (i + 1) K _ m5 _ (by omega) (by omega) (by rw [hdr1]; rfl) (by omega) (by simp) (by simp) ?_ ?_ ?_ ?_ hs5 (by simp; omega) (by omega) (by omega) (fun j hj => by rw [hk5 j hj, hk4 j (by omega)]; exact hm0d j hj) H1 H2
     ·rfl
     ·rfl
     ·exact res_int hw1
     ·exact res_int hw1
   ·rw [recoverS_err hne (by rw [hcut]) (by rw [hcut]; exact hdc)] at H1 H2
    have q1 := eqIK_ff (a := (b : Int)) (b := 0) (by omega)
    have en := neI_t (a := (b : Int)) (by omega)
    conv => arg 2; whnf
    repeat ((first | refine Ok.T ?_ | refine Ok.F ?_); conv => arg 2; whnf)
    refine H1 _ _ _ s hs2 (by omega) hf2 ?_ ?_ ?_
    ·rfl
    ·rfl
    ·rfl
  ·have hcn := neB_t hc
   rw [loopK_succ]
   obtain ⟨f_t, rfl⟩ := mkT_form [(0, _), (5, _), (6, _), (7, _)] ⟨t0, t5, t6, t7, trivial⟩
   conv => arg 2; whnf
   repeat ((first | refine Ok.T ?_ | refine Ok.opt hnth ?_); conv => arg 2; whnf)
   have happ : cur ++ c :: r = (cur ++ [c]) ++ r := by simp
   rw [happ] at H1 H2
   refine ih (cur ++ [c]) k0 es s p (i + 1) K _ m n (by omega) (by omega) (by rw [hdr, happ]) hpl (by simp; omega) (by simp [hcur]; exact fun e => hc e.symm) ?_ ?_ ?_ ?_ hs hel hlo (by omega) hm0 H1 H2
   ·rfl
   ·rfl
   ·rfl
   ·exact res_int hw1
end
end Go.Fm
set_option maxHeartbeats 8000000
namespace Go.Fm
theorem ltN_t {i k : Nat} (h : i < k) : ltIK (i : Int) (Int.ofNat k) = true := ltIK_tt (by show (i : Int) < (k : Int); omega)
theorem ltN_f {i k : Nat} (h : k ≤ i) : ltIK (i : Int) (Int.ofNat k) = false := ltIK_ff (by show (k : Int) ≤ (i : Int); omega)
theorem nbN {k : Nat} : (nB (eqIK (Int.ofNat k) (Int.ofNat k))) = false := by rw [eqIK_tt rfl]
theorem nbI {k : Int} : (nB (eqIK k k)) = false := by rw [eqIK_tt rfl]
theorem nbS {x : Bs} : (nB (eqBs x x)) = false := by rw [eqB_t rfl]
section
variable {E : Env'} {Q : V → Mem → Nat → Prop}
attribute [local irreducible] Ok callK loopK lenL nthL takeL dropL eqBs getM putM appVC evM
theorem same_loop {F : Nat} {call : CE} {kN kR : KKN} {kE : Nat → KKN} {fi : List FI} {a b : Nat} {names : List Bs} (hl : names.length ≤ 100000) (ha : a ≤ 262143) (hb : b ≤ 262143) {m : Mem} {n : Nat} (ga : m.get a = some (.cells (names.map vs') 9)) (gb : m.get b = some (.cells (names.map vs') 9)) :
  ∀ (k i K : Nat) (t : Tr 3 V), i + k = names.length → k < K → t.get 0 = some (.sl a 0 names.length none 1) → t.get 1 = some (.sl b 0 names.length none 1) → t.get 5 = some (vi i) → (∀ t', Ok Q (kE 0 t' m n fi)) → Ok Q (loopK (comp E bd24).run F call kN kE kR K t m n fi) := by
 intro k
 induction k with
 | zero =>
  intro i K t hi hK t0 t1 t5 H
  obtain ⟨K, rfl⟩ : ∃ k', K = k' + 1 := ⟨K - 1, by omega⟩
  rw [loopK_succ]
  have e1 := ltN_f (i := i) (k := names.length) (by omega)
  obtain ⟨f_t, rfl⟩ := mkT_form [(0, _), (1, _), (5, _)] ⟨t0, t1, t5, trivial⟩
  conv => arg 2; whnf
  repeat ((first | refine Ok.F ?_); conv => arg 2; whnf)
  exact H _
 | succ k ih =>
  intro i K t hi hK t0 t1 t5 H
  obtain ⟨K, rfl⟩ : ∃ k', K = k' + 1 := ⟨K - 1, by omega⟩
  rw [loopK_succ]
  have e1 := ltN_t (i := i) (k := names.length) (by omega)
  obtain ⟨x, hx⟩ : ∃ x, (names.map vs')[i]? = some (vs' x) := by
   have hi2 : i < names.length := by omega
   exact ⟨names[i], by simp [List.getElem?_eq_getElem hi2]⟩
  have e2 := nbS (x := x)
  have e3 : Nat.blt i names.length = true := Nat.ble_eq_true_of_le (by omega)
  have hx1 : cutK (Nat.add 0 (Nat.mul i 1)) 1 (names.map vs') = some [vs' x] := cutK_at (by
   have : Nat.add 0 (Nat.mul i 1) = i := by show 0 + i * 1 = i; omega
   rw [this]; exact hx)
  obtain ⟨f_t, rfl⟩ := mkT_form [(0, _), (1, _), (5, _)] ⟨t0, t1, t5, trivial⟩
  conv => arg 2; whnf
  repeat ((first | refine Ok.T ?_); conv => arg 2; whnf)
  repeat ((first | refine Ok.T ?_); conv => arg 2; whnf)
  refine Ok.getM ga ha ?_
  conv => arg 2; whnf
  repeat ((first | refine Ok.T ?_ | refine Ok.opt hx1 ?_); conv => arg 2; whnf)
  refine Ok.getM gb hb ?_
  conv => arg 2; whnf
  repeat ((first | refine Ok.F ?_ | refine Ok.opt hx1 ?_); conv => arg 2; whnf)
  refine ih (i + 1) K _ (by omega) (by omega) ?_ ?_ ?_ H
  ·rfl
  ·rfl
  ·exact res_int (wrap1 (by omega))
theorem g24 (h : Has E 43 fn24) {lo hi lo2 hi2 : Nat} {names : List Bs} {v1 v2 : V} {m : Mem} {n : Nat} (h1 : NamesIn lo hi names v1 m) (h2 : NamesIn lo2 hi2 names v2 m) (hh : hi ≤ 200000) (hh2 : hi2 ≤ 200000) (hl : names.length ≤ 1000) {K F : Nat} (h0 : K = F + 1) (hF : 1000 < F) : Ok (fun v m' n' => v = .bool true ∧ m' = m ∧ n' = n) (callK E K (.f 43) [v1, v2] m n) := by
 subst h0
 obtain ⟨F1, e1⟩ : ∃ F1, F = F1 + 1 := ⟨F - 1, by omega⟩
 rw [callK_fn h.h1 h.h2 h.h3]
 rcases h1 with ⟨rfl, rfl⟩ | ⟨g0, a, rfl, ga, _, hai⟩
 ·rcases h2 with ⟨_, rfl⟩ | ⟨g0, _⟩
  ·conv => arg 2; whnf
   refine Ok.loop F1 e1 ?_
   conv => arg 2; whnf
   exact Ok.done ⟨rfl, rfl, rfl⟩
  ·exact absurd rfl g0
 ·rcases h2 with ⟨rfl, _⟩ | ⟨_, b, rfl, gb, _, hbi⟩
  ·exact absurd rfl g0
  ·have e0 := nbN (k := names.length)
   conv => arg 2; whnf
   repeat ((first | refine Ok.F ?_); conv => arg 2; whnf)
   refine same_loop (by omega) (by omega) (by omega) ga gb names.length 0 F _ (by omega) (by omega) rfl rfl rfl fun t' => ?_
   conv => arg 2; whnf
   exact Ok.done ⟨rfl, rfl, rfl⟩
end
end Go.Fm
set_option maxHeartbeats 8000000
namespace Go.Fm
theorem EvCells.at {lo hi : Nat} {m : Mem} : ∀ {es : List Ev1} {cs : List V} {i : Nat} {e : Ev1}, EvCells lo hi m es cs → es[i]? = some e → ∃ nv, NamesIn lo hi e.ev.names nv m ∧ cs[i * 5]? = some (vi e.num) ∧ cs[i * 5 + 1]? = some (vs' e.ev.kind) ∧ cs[i * 5 + 2]? = some nv ∧ cs[i * 5 + 3]? = some .nils ∧ cs[i * 5 + 4]? = some (vs' e.ev.text)
 | [], _, i, e, _, h => by simp at h
 | e :: es, cs, 0, e', ⟨nv, r, h1, h2, h3⟩, h => by
  simp only [List.getElem?_cons_zero, oSi] at h
  subst h
  rw [h1]
  exact ⟨nv, h2, rfl, rfl, rfl, rfl, rfl⟩
 | e :: es, cs, i + 1, e', ⟨nv, r, h1, h2, h3⟩, h => by
  simp only [List.getElem?_cons_succ] at h
  obtain ⟨nv', g, g0, g1, g2, g3, g4⟩ := EvCells.at h3 h
  have e0 : (i + 1) * 5 = i * 5 + 5 := by omega
  rw [h1]
  refine ⟨nv', g, ?_, ?_, ?_, ?_, ?_⟩
  ·rw [e0]; exact g0
  ·rw [e0]; exact g1
  ·rw [e0]; exact g2
  ·rw [e0]; exact g3
  ·rw [e0]; exact g4
section
variable {E : Env'} {Q : V → Mem → Nat → Prop}
attribute [local irreducible] Ok callK loopK lenL nthL takeL dropL eqBs getM putM appVC evM cutK
theorem same7_loop (h24 : Has E 43 fn24) {F F1 : Nat} (hF : F = F1 + 1) (hF1 : 1000 < F1) {kN kR : KKN} {kE : Nat → KKN} {fi : List FI} {lo hi lo2 hi2 a b : Nat} {es : List Ev1} {cs ds : List V} {ca cb : Option Nat} (hes : ∀ e ∈ es, e.ev.names.length ≤ 1000) (hl : es.length ≤ 100000) (hh : hi ≤ 200000) (hh2 : hi2 ≤ 200000) (ha : a ≤ 262143) (hb : b ≤ 262143) {m : Mem} {n : Nat}
  (ga : m.get a = some (.cells cs 25)) (gb : m.get b = some (.cells ds 25)) (hc : EvCells lo hi m es cs) (hd : EvCells lo2 hi2 m es ds) :
  ∀ (k i K : Nat) (t : Tr 3 V), i + k = es.length → k < K → t.get 0 = some (.sl a 0 es.length ca 5) → t.get 1 = some (.sl b 0 es.length cb 5) → t.get 5 = some (vi i) → (∀ t', Ok Q (kE 0 t' m n fi)) → Ok Q (loopK (comp E bd7).run F (callK E F) kN kE kR K t m n fi) := by
 intro k
 induction k with
 | zero =>
  intro i K t hi hK t0 t1 t5 H
  obtain ⟨K, rfl⟩ : ∃ k', K = k' + 1 := ⟨K - 1, by omega⟩
  rw [loopK_succ]
  have e1 := ltN_f (i := i) (k := es.length) (by omega)
  obtain ⟨f_t, rfl⟩ := mkT_form [(0, _), (1, _), (5, _)] ⟨t0, t1, t5, trivial⟩
  conv => arg 2; whnf
  repeat ((first | refine Ok.F ?_); conv => arg 2; whnf)
  exact H _
 | succ k ih =>
  intro i K t hi hK t0 t1 t5 H
  obtain ⟨K, rfl⟩ : ∃ k', K = k' + 1 := ⟨K - 1, by omega⟩
  rw [loopK_succ]
  have e1 := ltN_t (i := i) (k := es.length) (by omega)
  obtain ⟨e, he⟩ : ∃ e, es[i]? = some e := ⟨es[i]'(by omega), List.getElem?_eq_getElem (by omega)⟩
  have hne := hes e (List.mem_of_getElem? he)
  obtain ⟨nv, hn1, a0, a1, a2, a3, a4⟩ := hc.at he
  obtain ⟨nw, hn2, b0, b1, b2, b3, b4⟩ := hd.at he
  have z0 : ∀ f, Nat.add (Nat.add 0 (Nat.mul i 5)) f = i * 5 + f := fun f => by show 0 + i * 5 + f = i * 5 + f; omega
  have c0 : cutK (Nat.add (Nat.add 0 (Nat.mul i 5)) 0) 1 cs = some [vi e.num] := cutK_at (by rw [z0]; exact a0)
  have c1 : cutK (Nat.add (Nat.add 0 (Nat.mul i 5)) 1) 1 cs = some [vs' e.ev.kind] := cutK_at (by rw [z0]; exact a1)
  have c2 : cutK (Nat.add (Nat.add 0 (Nat.mul i 5)) 2) 1 cs = some [nv] := cutK_at (by rw [z0]; exact a2)
  have c3 : cutK (Nat.add (Nat.add 0 (Nat.mul i 5)) 3) 1 cs = some [.nils] := cutK_at (by rw [z0]; exact a3)
  have c4 : cutK (Nat.add (Nat.add 0 (Nat.mul i 5)) 4) 1 cs = some [vs' e.ev.text] := cutK_at (by rw [z0]; exact a4)
  have d0 : cutK (Nat.add (Nat.add 0 (Nat.mul i 5)) 0) 1 ds = some [vi e.num] := cutK_at (by rw [z0]; exact b0)
  have d1 : cutK (Nat.add (Nat.add 0 (Nat.mul i 5)) 1) 1 ds = some [vs' e.ev.kind] := cutK_at (by rw [z0]; exact b1)
  have d2 : cutK (Nat.add (Nat.add 0 (Nat.mul i 5)) 2) 1 ds = some [nw] := cutK_at (by rw [z0]; exact b2)
  have d3 : cutK (Nat.add (Nat.add 0 (Nat.mul i 5)) 3) 1 ds = some [.nils] := cutK_at (by rw [z0]; exact b3)
  have d4 : cutK (Nat.add (Nat.add 0 (Nat.mul i 5)) 4) 1 ds = some [vs' e.ev.text] := cutK_at (by rw [z0]; exact b4)
  have e3 : Nat.blt i es.length = true := Nat.ble_eq_true_of_le (by omega)
  have q1 := nbI (k := (e.num : Int))
  have q2 := nbS (x := e.ev.kind)
  have q3 := nbS (x := e.ev.text)
  obtain ⟨f_t, rfl⟩ := mkT_form [(0, _), (1, _), (5, _)] ⟨t0, t1, t5, trivial⟩
  conv => arg 2; whnf
  repeat ((first | refine Ok.T ?_); conv => arg 2; whnf)
  repeat ((first | refine Ok.getM ga ha ?_ | refine Ok.getM gb hb ?_ | refine Ok.opt (by with_reducible assumption) ?_ | refine Ok.T ?_ | refine Ok.F ?_); conv => arg 2; whnf)
  refine Ok.sub (g24 h24 hn1 hn2 hh hh2 hne hF hF1) fun v m' n' hq => ?_
  obtain ⟨rfl, rfl, rfl⟩ := hq
  conv => arg 2; whnf
  repeat ((first | refine Ok.getM ga ha ?_ | refine Ok.getM gb hb ?_ | refine Ok.opt (by with_reducible assumption) ?_ | refine Ok.T ?_ | refine Ok.F ?_); conv => arg 2; whnf)
  refine ih (i + 1) K _ (by omega) (by omega) ?_ ?_ ?_ H
  ·rfl
  ·rfl
  ·exact res_int (wrap1 (by omega))
end
end Go.Fm
set_option maxHeartbeats 8000000
namespace Go.Fm
theorem parseS_names {s : Bs} {e : Ev'} (h : parseS s = some e) : e.names.length ≤ 2 := by
 unfold parseS at h
 simp only [oBs] at h
 obtain ⟨f, hf, w, hw, h⟩ := h
 have hl := (wordsS_len _ _ _ _ hw).1
 have h2 : f.1 ≤ 2 := by rcases form_cases hf with rfl | rfl | rfl | rfl <;> simp
 have key : e.names = w.1 := by
  split at h
  ·split at h
   ·simp only [oMs] at h
    obtain ⟨x, _, rfl⟩ := h
    rfl
   ·injection h with h; subst h; rfl
  ·cases h
 rw [key, hl]; exact h2
theorem decodeS_names {f : Nat → Bs} {s : Bs} {e : Ev1} (h : decodeS f s = .inl e) : e.ev.names.length ≤ 2 := by
 unfold decodeS at h
 split at h
 ·cases h
 split at h
 ·cases h
 split at h
 ·cases h
 split at h
 ·cases h
 split at h
 ·cases h
 ·rename_i e' he
  split at h
  ·injection h with h; subst h; exact parseS_names he
  ·cases h
section
variable {E : Env'} {Q : V → Mem → Nat → Prop}
attribute [local irreducible] Ok callK loopK lenL nthL takeL dropL eqBs getM putM appVC evM cutK
theorem g5 (h : Has E 25 fn5) (h19 : E.nat.get 31 = some tCut1) (n20 : E.nat.get 8 = none) (h20 : E.mnat.get 8 = some (tEv decO)) (h22 : E.nat.get 30 = some tWhen) (h21 : Has E 29 fn21) {K F F1 : Nat} (e0 : K = F + 1) (e1 : F = F1 + 1) (hF1 : 6 < F1) {log : Bs} (hlog : log.length ≤ 2000) (hF : log.length < F) {m : Mem} {n : Nat} (hn : n ≤ 100000)
  {es : List Ev1} {p er : Nat} (hR : recoverS Lib.decDigits (log.length + 1) [] 0 log = (es, p, er)) :
  Ok (fun v m' n' => ∃ s, EvsAt n n' es s m' ∧ (n ≤ n' ∧ n' ≤ n + 13000) ∧ (∀ j, j < n → m'.get j = m.get j) ∧ v = .tup [s, vi p, vi er]) (callK E K (.f 25) [vs' log] m n) := by
 refine h.run e0 (show 1 ≤ 59 by omega) ?_
 have q1 : ltIK 1000000 (Int.ofNat (lenL log)) = false := by rw [lenL_eq]; exact ltIK_ff (by show (log.length : Int) ≤ 1000000; omega)
 conv => arg 2; whnf
 repeat ((first | refine Ok.F ?_); conv => arg 2; whnf)
 refine rec5_loop h19 n20 h20 h22 h21 e1 hF1 (by omega) (N := n + 13000) (by omega) (lo := n) (m0 := m) log.length log [] .nils 0 F _ m n (Nat.le_refl _) hF rfl rfl rfl (.inl ⟨rfl, rfl⟩) (Nat.le_refl _) (fun _ _ => rfl) (by omega) (by simp) (by omega) ?_ ?_
 ·rw [hR]
  intro t' m' n' s' hs hn' hm' t'2 t'3 t'4
  obtain ⟨f_tp, rfl⟩ := mkT_form [(2, _), (3, _), (4, _)] ⟨t'2, t'3, t'4, trivial⟩
  conv => arg 2; whnf
  exact Ok.done ⟨s', hs, hn', hm', rfl⟩
 ·rw [hR]
  intro t' m' n' s' hs hn' hm' hp her t'0 t'5
  simp only at hp her
  subst hp her
  have q2 : Int.ofNat (lenL log) = (log.length : Int) := by rw [lenL_eq]; rfl
  obtain ⟨f_tp, rfl⟩ := mkT_form [(0, _), (5, _)] ⟨t'0, t'5, trivial⟩
  conv => arg 2; whnf
  exact Ok.done ⟨s', hs, hn', hm', by rw [← q2]; rfl⟩
theorem g6 (h : Has E 10 fn6) (n23 : E.nat.get 13 = none) (h23 : E.mnat.get 13 = some (tEv decO)) {K F F1 : Nat} (e0 : K = F + 1) (e1 : F = F1 + 1) {log : Bs} (hlog : log.length ≤ 2000) (hF : log.length < F) {m : Mem} {n : Nat} (hn : n ≤ 180000)
  {es : List Ev1} {p er : Nat} (hR : recoverS Lib.decDigits (log.length + 1) [] 0 log = (es, p, er)) :
  Ok (fun v m' n' => ∃ s, EvsAt n n' es s m' ∧ (n ≤ n' ∧ n' ≤ n + 17000) ∧ (∀ j, j < n → m'.get j = m.get j) ∧ v = .tup [s, vi p, vi er]) (callK E K (.f 10) [vs' log] m n) := by
 subst e0
 rw [callK_fn h.h1 h.h2 h.h3]
 have q1 : ltIK 1000000 (Int.ofNat (lenL log)) = false := by rw [lenL_eq]; exact ltIK_ff (by show (log.length : Int) ≤ 1000000; omega)
 conv => arg 2; whnf
 repeat ((first | refine Ok.F ?_); conv => arg 2; whnf)
 refine rec6_loop n23 h23 e1 (log := log) (by omega) (lo := n) (N := n + 12000) (m0 := m) (by omega) log [] log.length [] .nils 0 0 F _ m n (Nat.le_refl _) hF rfl (by omega) rfl (by simp) rfl rfl rfl rfl (.inl ⟨rfl, rfl⟩) (by simp) (Nat.le_refl _) (by omega) (fun _ _ => rfl) ?_ ?_
 ·rw [List.nil_append, hR]
  intro t' m' n' s' hs hn' hm' t'2 t'3 t'4
  obtain ⟨f_tp, rfl⟩ := mkT_form [(2, _), (3, _), (4, _)] ⟨t'2, t'3, t'4, trivial⟩
  conv => arg 2; whnf
  exact Ok.done ⟨s', hs, by omega, hm', rfl⟩
 ·rw [List.nil_append, hR]
  intro t' m' n' s' p' hs hn' hm' hp hpl her t'0 t'5 t'6
  simp only at hp her
  subst hp
  by_cases hlt : p < log.length
  ·rw [if_pos hlt] at her
   subst her
   have q2 := lt_t (l := log) (i := p) hlt
   obtain ⟨f_tp, rfl⟩ := mkT_form [(0, _), (5, _), (6, _)] ⟨t'0, t'5, t'6, trivial⟩
   conv => arg 2; whnf
   repeat ((first | refine Ok.T ?_); conv => arg 2; whnf)
   exact Ok.done ⟨s', hs, by omega, hm', rfl⟩
  ·rw [if_neg hlt] at her
   subst her
   have q2 := lt_f (l := log) (i := p) (by omega)
   obtain ⟨f_tp, rfl⟩ := mkT_form [(0, _), (5, _), (6, _)] ⟨t'0, t'5, t'6, trivial⟩
   conv => arg 2; whnf
   repeat ((first | refine Ok.F ?_); conv => arg 2; whnf)
   exact Ok.done ⟨s', hs, by omega, hm', rfl⟩
theorem g7 (h : Has E 14 fn7) (h24 : Has E 43 fn24) {K F F1 : Nat} (e0 : K = F + 1) (e1 : F = F1 + 1) (hF1 : 1000 < F1) {lo hi lo2 hi2 a b : Nat} {es : List Ev1} {cs ds : List V} {ca cb : Option Nat} (hes : ∀ e ∈ es, e.ev.names.length ≤ 1000) (hl : es.length ≤ 1000) (hh : hi ≤ 200000) (hh2 : hi2 ≤ 200000) (ha : a ≤ 262143) (hb : b ≤ 262143) {m : Mem} {n : Nat}
  (ga : m.get a = some (.cells cs 25)) (gb : m.get b = some (.cells ds 25)) (hc : EvCells lo hi m es cs) (hd : EvCells lo2 hi2 m es ds) :
  Ok (fun v m' n' => v = .bool true ∧ m' = m ∧ n' = n) (callK E K (.f 14) [.sl a 0 es.length ca 5, .sl b 0 es.length cb 5] m n) := by
 refine h.run e0 (show 2 ≤ 84 by omega) ?_
 have q0 := nbN (k := es.length)
 conv => arg 2; whnf
 repeat ((first | refine Ok.F ?_); conv => arg 2; whnf)
 refine same7_loop h24 e1 hF1 hes (by omega) hh hh2 ha hb ga gb hc hd es.length 0 F _ (by omega) (by omega) rfl rfl rfl fun t' => ?_
 conv => arg 2; whnf
 exact Ok.done ⟨rfl, rfl, rfl⟩
def tAwake : List V → Option V
 | [] => some (.bool true)
 | _ => none
end
end Go.Fm
namespace Go.Fm
section
variable [Ctx] {P : Program} {E : Env'}
theorem ns_tPlainP (hE : EnvOk P E) (h : Has E 79 fn128) (h50 : Has E 69 fn50) (h121 : Has E 138 fn121) (h39 : Has E 58 fn39) (h208 : E.nat.get 216 = some tSame) (h19 : E.nat.get 31 = some tCut1) (h151 : E.nat.get 145 = some tPre1) (h45 : E.nat.get 64 = some tHas1) : NSpec P 79 tPlainS :=
 ns_sT hE fun l hl => ⟨by unfold plnV; split <;> rfl, g128 h h50 h121 h39 h208 h19 h151 h45 hl⟩
end
end Go.Fm
end
