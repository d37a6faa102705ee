import Derived.Test.YtciondmibomehaaGreatDoorHA
set_option maxRecDepth 100000
set_option linter.unusedSectionVars false
set_option linter.unusedVariables false
set_option linter.unusedSimpArgs false
set_option linter.constructorNameAsVariable false
noncomputable section
set_option maxHeartbeats 8000000
namespace Go.Fm
def GrownAt (b : Nat) (m : Mem) : Prop := ∃ id cs, m.get b = some (.cells [.ptr b 0, .sl id 0 0 none 1] 125) ∧ m.get id = some (.cells cs 5) ∧ b < id ∧ id ≤ 262143
theorem tMkA_at {N : Nat} {m : Mem} {n : Nat} (hN : N ≤ 100000) (hn : n ≤ 262143) : ∃ m', tMkA 5 [vi N] m n = some (.sl n 0 N none 1, m', n + 1) ∧ ∀ j, m'.get j = if j = n then some (.cells (replV [.u] N) 5) else m.get j := by
 obtain ⟨m', hm'⟩ := Tr.set_ok (d := 6) (f := fuel) (k := n) (by show n < 262144; omega) m (some (.cells (replV [.u] N) 5) : Option B)
 refine ⟨m', ?_, Tr.get_set hm'⟩
 have e1 : leI 0 (N : Int) = true := decide_eq_true (by omega)
 have e2 : leI (N : Int) 16777216 = true := decide_eq_true (by omega)
 have e3 : (N : Int).toNat = N := by omega
 show (bif leI 0 (N : Int) && leI (N : Int) 16777216 then newB m n (replV [.u] (N : Int).toNat) 5 (.sl n 0 (N : Int).toNat none 1) else none) = _
 rw [e1, e2, e3]
 simp only [Bool.and_self, cond_true, newB, hm', Option.map_some]
theorem Ok.copyN {Q : V → Mem → Nat → Prop} {k : V × Mem × Nat → A} {d s : X} {t : Tr 3 V} {m : Mem} {n b : Nat} {cap : Option Nat} (hd : val t d = .sl b 0 0 cap 1) (hs : val t s = .nils) (H : Ok Q (k (vi 0, m, n))) : Ok Q (Option.rec (motive := fun _ => A) none k (evM (.copy 1 d s) t m n)) := by
 refine Ok.opt (v := (vi 0, m, n)) ?_ H
 simp only [evM, hd, hs, elsV, beq_self_eq_true, cond_true, Option.bind_some]; rfl
theorem Ok.buf0 {Q : V → Mem → Nat → Prop} {m : Mem} {n k id : Nat} {cs new : List V} {kt : V → Mem → Nat → A} (hg : m.get id = some (.cells cs 5)) (hid : id ≤ 262143) (hk : new.length = k) (h0 : 0 < k) (hr : k ≤ 100000) (hn : n ≤ 262143)
  (H : ∀ m', (∀ j, m'.get j = if j = n then some (.cells new 5) else if j = id then none else m.get j) → Ok Q (kt (.sl n 0 k none 1) m' (n + 1))) : Ok Q (appVC m n 1 1 5 (.sl id 0 0 none 1) k new kt) := by
 have b1 : Nat.beq (Nat.add 0 k) 0 = false := by
  cases hb : Nat.beq (Nat.add 0 k) 0 with
  | false => rfl
  | true => have := Nat.eq_of_beq_eq_true hb; have h2 : 0 + k = 0 := this; omega
 have b3 : roomOk (Nat.add 0 k) 1 = true := by
  show roomOk (0 + k) 1 = true
  simp [roomOk]; omega
 unfold appVC
 refine Ok.tt b3 ?_
 refine Ok.ff b1 ?_
 unfold elsC
 refine Ok.getM hg hid ?_
 refine Ok.putM hid fun m1 hm1 => ?_
 refine Ok.putM hn fun m2 hm2 => ?_
 have e : Nat.add 0 k = k := Nat.zero_add k
 rw [e]
 refine H m2 fun j => ?_
 rw [hm2]
 split
 ·rfl
 ·rw [hm1]
section
variable {E : Env'} {Q : V → Mem → Nat → Prop}
attribute [local irreducible] Ok callK loopK lenL nthL takeL dropL eqBs getM putM appVC evM wrapK
theorem g174 (h : Has E 184 fn174) (h121 : Has E 138 fn121) (h208 : E.nat.get 216 = some tSame) (h246 : Has E 259 fn246) (n328 : E.nat.get 339 = none) (h328 : E.mnat.get 339 = some (tMkA 5)) {b N : Nat} {m : Mem} {n : Nat} (hb : m.get b = some (.cells [.nilp, .nils] 125)) (hbl : b ≤ 262143) (hN : N ≤ 100000) (h0 : 0 < N) (hn : n ≤ 200000) (hbn : b < n) {K F F1 F2 : Nat} (e0 : K = F + 1) (e1 : F = F1 + 1) (e2 : F1 = F2 + 1) :
  Ok (fun v m' n' => GrownAt b m' ∧ n' = n + 1 ∧ ∀ j, j < b → m'.get j = m.get j) (callK E K (.f 184) [.ptr b 0, vi N] m n) := by
 refine h.run e0 (show 2 ≤ 25 by omega) ?_
 have q1 : ltIK (N : Int) 0 = false := ltIK_ff (by omega)
 have w1 : wrapK .i64 (Int.sub (Int.ofNat 0) (Int.ofNat 0)) = 0 := wrapS (n := 0) (by omega) (by omega)
 have w2 : wrapK .i64 (Int.add (wrapK .i64 (Int.mul 2 (Int.ofNat 0))) N) = (N : Int) := by
  rw [wrapS (n := Int.mul 2 (Int.ofNat 0)) (by show (-9223372036854775808 : Int) ≤ 0; omega) (by show (0 : Int) ≤ 9223372036854775807; omega)]
  rw [show Int.add (Int.mul 2 (Int.ofNat 0)) (N : Int) = (N : Int) from Int.zero_add _]
  exact wrapS (by omega) (by omega)
 have q2 : ltIK (wrapK .i64 (Int.sub (Int.ofNat 0) (Int.ofNat 0))) (N : Int) = true := by rw [w1]; exact ltIK_tt (by omega)
 conv => arg 2; whnf
 refine Ok.callE h121 e1 (show 1 ≤ 20 by omega) ?_
 conv => arg 2; whnf
 refine Ok.getM hb hbl ?_
 conv => arg 2; whnf
 refine Ok.opt (ev_toU rfl hb rfl) ?_
 conv => arg 2; whnf
 refine Ok.N h208 e2 rfl ?_
 conv => arg 2; whnf
 refine Ok.opt (ev_frU rfl hb rfl) ?_
 conv => arg 2; whnf
 refine Ok.getM hb hbl ?_
 conv => arg 2; whnf
 refine Ok.putM hbl fun m1 hm1 => ?_
 have hb1 : m1.get b = some (.cells [.ptr b 0, .nils] 125) := by rw [hm1, if_pos rfl]; rfl
 conv => arg 2; whnf
 refine Ok.ret ?_
 conv => arg 2; whnf
 repeat ((first | refine Ok.getM hb1 hbl ?_ | refine Ok.T ?_); conv => arg 2; whnf)
 refine Ok.tt q2 ?_
 conv => arg 2; whnf
 obtain ⟨m2, hmk, hm2⟩ := tMkA_at (m := m1) hN (show n ≤ 262143 by omega)
 have hmk' : tMkA 5 [.int .i64 (wrapK .i64 (Int.add (wrapK .i64 (Int.mul 2 (Int.ofNat 0))) N))] m1 n = some (.sl n 0 N none 1, m2, n + 1) := by rw [w2]; exact hmk
 have hb2 : m2.get b = some (.cells [.ptr b 0, .nils] 125) := by rw [hm2, if_neg (by omega)]; exact hb1
 refine Ok.callE h246 e1 (show 2 ≤ 30 by omega) ?_
 conv => arg 2; whnf
 repeat (refine Ok.getM hb1 hbl ?_; conv => arg 2; whnf)
 refine Ok.opt (callK_mnatE n328 h328 e2 hmk') ?_
 conv => arg 2; whnf
 refine Ok.tt ?_ ?_
 ·refine recs1 rfl rfl ?_ ?_
  ·exact recs_nil
  ·conv => arg 2; whnf
   refine Ok.getM hb2 hbl ?_
   conv => arg 2; whnf
   exact Ok.done rfl
 conv => arg 2; whnf
 refine Ok.getM hb2 hbl ?_
 conv => arg 2; whnf
 refine Ok.copyN rfl rfl ?_
 conv => arg 2; whnf
 refine Ok.getM hb2 hbl ?_
 conv => arg 2; whnf
 refine Ok.putM hbl fun m3 hm3 => ?_
 conv => arg 2; whnf
 refine Ok.ret ?_
 conv => arg 2; whnf
 refine Ok.done ⟨⟨n, replV [.u] N, by rw [hm3, if_pos rfl]; rfl, by rw [hm3, if_neg (by omega), hm2, if_pos rfl], by omega, by omega⟩, rfl, fun j hj => ?_⟩
 rw [hm3, if_neg (by omega), hm2, if_neg (by omega), hm1, if_neg (by omega)]
theorem g50G (h : Has E 69 fn50) (h121 : Has E 138 fn121) {b : Nat} {x : Bs} {m : Mem} {n : Nat} (hB : GrownAt b m) (hbl : b ≤ 262143) (h0 : x ≠ []) (hr : x.length ≤ 100000) (hn : n ≤ 262143) (hbn : b < n) {K F F1 : Nat} (e0 : K = F + 1) (e1 : F = F1 + 1) :
  Ok (fun v m' n' => BuildAt b (bytesL (bs x)) m' ∧ n' = n + 1 ∧ ∀ j, j < b → m'.get j = m.get j) (callK E K (.f 69) [.ptr b 0, vs' x] m n) := by
 obtain ⟨id, cs, hb, hg, hbi, hid⟩ := hB
 have hall := bytes_one x
 have hlen := bytes_len x
 have hl0 : 0 < (bs x).size := by rw [← hlen]; exact (by rw [bsL_len]; exact List.length_pos_iff.2 h0)
 have hlr : (bs x).size ≤ 100000 := by rw [← hlen]; rw [show (bytesL (bs x)).length = x.length from bsL_len x]; exact hr
 refine h.run e0 (show 2 ≤ 19 by omega) ?_
 conv => arg 2; whnf
 refine Ok.callE h121 e1 (show 1 ≤ 20 by omega) ?_
 conv => arg 2; whnf
 refine Ok.getM hb hbl ?_
 conv => arg 2; whnf
 refine Ok.getM hb hbl ?_
 conv => arg 2; whnf
 refine Ok.opt (ev_ptrEq rfl rfl) ?_
 conv => arg 2; whnf
 refine Ok.ret ?_
 conv => arg 2; whnf
 refine Ok.getM hb hbl ?_
 conv => arg 2; whnf
 refine Ok.tt hall ?_
 refine Ok.buf0 hg hid hlen hl0 hlr hn fun m2 hm2 => ?_
 have hb2 : m2.get b = some (.cells [.ptr b 0, .sl id 0 0 none 1] 125) := by rw [hm2, if_neg (by omega), if_neg (by omega)]; exact hb
 conv => arg 2; whnf
 refine Ok.getM hb2 hbl ?_
 conv => arg 2; whnf
 refine Ok.putM hbl fun m3 hm3 => ?_
 conv => arg 2; whnf
 refine Ok.done ⟨⟨.ptr b 0, _, .inr rfl, by rw [hm3, if_pos rfl], .inr ⟨n, ?_, ?_, ?_, hn⟩, fun j hj => ?_⟩, rfl, fun j hj => ?_⟩
 ·rw [hlen]; rfl
 ·intro h; have := congrArg List.length h; rw [bsL_len] at this; exact h0 (List.length_eq_zero_iff.1 this)
 ·rw [hm3, if_neg (by omega), hm2, if_pos rfl]
 ·obtain ⟨_, _, _, _, h⟩ := hj; injection h with h; omega
 ·rw [hm3, if_neg (by omega), hm2, if_neg (by omega), if_neg (by omega)]
end
end Go.Fm
set_option maxHeartbeats 8000000
namespace Go.Fm
def sumL : List Bs → Nat
 | [] => 0
 | a :: r => a.length + sumL r
def joinT : List Bs → Bs
 | [] => []
 | a :: r => 32 :: (a ++ joinT r)
theorem joinS_T : ∀ (r : List Bs) (a : Bs), joinS (a :: r) = a ++ joinT r
 | [], a => by simp [joinS, joinT]
 | b :: r, a => by
  show a ++ 32 :: joinS (b :: r) = a ++ 32 :: (b ++ joinT r)
  rw [joinS_T r b]
theorem joinT_len : ∀ r : List Bs, (joinT r).length = sumL r + r.length
 | [] => rfl
 | a :: r => by simp only [joinT, sumL, List.length_cons, List.length_append, joinT_len r]; omega
theorem quoM_at {d : Int} (h1 : 1 ≤ d) (h2 : d ≤ 100000) : ∃ q, intOp .quo .i64 9223372036854775807 d = some (.int .i64 q) ∧ 1 < q := by
 have h0 : (d == 0) = false := beq_eq_false_iff_ne.2 (by omega)
 have hq : Int.tdiv 9223372036854775807 d = 9223372036854775807 / d := Int.tdiv_eq_ediv_of_nonneg (by omega)
 have hlo : 92233720368547 ≤ 9223372036854775807 / d := by
  apply Int.le_ediv_of_mul_le (by omega)
  omega
 have hhi : 9223372036854775807 / d ≤ 9223372036854775807 := Int.ediv_le_self _ (by omega)
 refine ⟨9223372036854775807 / d, ?_, by omega⟩
 unfold intOp
 simp only [h0, hq]
 first | rw [wrapI (by omega) (by omega)]; rfl | (simp; rw [wrapI (by omega) (by omega)])
theorem StrsAt.tail {id off : Nat} {a : Bs} {r : List Bs} {m : Mem} (h : StrsAt id off (a :: r) m) : StrsAt id (off + 1) r m := by
 obtain ⟨h1, b, cs, h2, h3, h4⟩ := h
 exact ⟨h1, b, cs, h2, h3, fun i x hx => by rw [Nat.add_assoc, Nat.add_comm 1 i]; exact h4 (i + 1) x hx⟩
section
variable {E : Env'} {Q : V → Mem → Nat → Prop}
attribute [local irreducible] Ok callK loopK lenL nthL takeL dropL eqBs getM putM appVC evM cutK wrapK intOp
theorem join1_loop {F : Nat} {call : CE} {kN kR : KKN} {kE : Nat → KKN} {fi : List FI} {id : Nat} {ws : List Bs} {cap : Option Nat} {v0 : V} {m : Mem} {n : Nat} (hs : StrsAt id 0 ws m) (hl : ws.length ≤ 1000) (hsum : sumL ws ≤ 50000) :
  ∀ (r a : List Bs) (s K : Nat) (t : Tr 3 V), a ++ r = ws → s + sumL r ≤ 100000 → r.length < K → t.get 0 = some v0 → t.get 1 = some (vs' [32]) → t.get 5 = some (vi s) → t.get 39 = some (.sl id 0 ws.length cap 1) → t.get 40 = some (vi ws.length) → t.get 41 = some (vi a.length) →
  (∀ t', t'.get 0 = some v0 → t'.get 1 = some (vs' [32]) → t'.get 5 = some (vi (s + sumL r : Nat)) → Ok Q (kE 1 t' m n fi)) → Ok Q (loopK (comp E bd88b).run F call kN kE kR K t m n fi) := by
 intro r
 induction r with
 | nil =>
  intro a s K t ha hs' hK t0 t1 t5 t39 t40 t41 H
  obtain ⟨K, rfl⟩ : ∃ k', K = k' + 1 := ⟨K - 1, by omega⟩
  rw [loopK_succ]
  have q1 : ltIK (a.length : Int) (ws.length : Int) = false := ltIK_ff (by rw [← ha]; simp)
  obtain ⟨f_t, rfl⟩ := mkT_form [(0, _), (1, _), (5, _), (39, _), (40, _), (41, _)] ⟨t0, t1, t5, t39, t40, t41, trivial⟩
  conv => arg 2; whnf
  repeat ((first | refine Ok.F ?_); conv => arg 2; whnf)
  refine H _ ?_ ?_ ?_
  ·rfl
  ·rfl
  ·rfl
 | cons c r ih =>
  intro a s K t ha hs' hK t0 t1 t5 t39 t40 t41 H
  obtain ⟨K, rfl⟩ : ∃ k', K = k' + 1 := ⟨K - 1, by omega⟩
  rw [loopK_succ]
  simp only [sumL] at hs'
  have hlen : a.length < ws.length := by rw [← ha]; simp
  have q1 : ltIK (a.length : Int) (ws.length : Int) = true := ltIK_tt (by omega)
  have q2 : Nat.blt a.length ws.length = true := Nat.ble_eq_true_of_le hlen
  have hi : ws[a.length]? = some c := by rw [← ha]; simp
  have ho : Nat.add 0 (Nat.mul a.length 1) = 0 + a.length := by show 0 + a.length * 1 = _; omega
  have hL : Int.ofNat (lenL c) = ((c.length : Nat) : Int) := by rw [lenL_eq]; rfl
  have q3 : ltIK (wrapK .i64 (Int.sub 9223372036854775807 (s : Int))) (Int.ofNat (lenL c)) = false := by
   rw [hL, show Int.sub 9223372036854775807 (s : Int) = 9223372036854775807 - (s : Int) from rfl, wrapS (by omega) (by omega)]
   exact ltIK_ff (by omega)
  have w1 : wrapK .i64 (Int.add (s : Int) (Int.ofNat (lenL c))) = ((s + c.length : Nat) : Int) := by
   rw [hL, show Int.add (s : Int) (c.length : Int) = ((s + c.length : Nat) : Int) from rfl]; exact wrapS (by omega) (by omega)
  obtain ⟨f_t, rfl⟩ := mkT_form [(0, _), (1, _), (5, _), (39, _), (40, _), (41, _)] ⟨t0, t1, t5, t39, t40, t41, trivial⟩
  conv => arg 2; whnf
  repeat ((first | refine Ok.T ?_ | refine Ok.F ?_ | refine Ok.ldS hs hi ho ?_); conv => arg 2; whnf)
  refine ih (a ++ [c]) (s + c.length) K _ (by rw [← ha]; simp) (by omega) (by simp at hK; omega) ?_ ?_ ?_ ?_ ?_ ?_ ?_
  ·rfl
  ·rfl
  ·exact res_int w1
  ·rfl
  ·rfl
  ·exact res_int ((wrap1 (by omega)).trans (by simp))
  ·intro t' g0 g1 g5
   exact H t' g0 g1 (by rw [g5]; simp [sumL, Nat.add_assoc])
theorem join2_loop (h50 : Has E 69 fn50) (h121 : Has E 138 fn121) (h208 : E.nat.get 216 = some tSame) {F F1 F2 F3 : Nat} (e1 : F = F1 + 1) (e2 : F1 = F2 + 1) (e3 : F2 = F3 + 1) {kN kR : KKN} {kE : Nat → KKN} {fi : List FI} {id o b : Nat} {ws : List Bs} {cap : Option Nat} (hl : ws.length ≤ 1000) (hib : id < b) (hb : b ≤ 200000) :
  ∀ (r a : List Bs) (x : Bs) (K : Nat) (t : Tr 3 V) (m : Mem) (n : Nat), a ++ r = ws → StrsAt id o ws m → BuildAt b (bytesL (bs x)) m → x.length + (joinT r).length ≤ 100000 → b < n → n + 2 * r.length ≤ 262000 → r.length < K → t.get 1 = some (vs' [32]) → t.get 8 = some (.ptr b 0) → t.get 63 = some (.sl id o ws.length cap 1) → t.get 64 = some (vi ws.length) → t.get 65 = some (vi a.length) →
  (∀ t' m' n', t'.get 8 = some (.ptr b 0) → BuildAt b (bytesL (bs (x ++ joinT r))) m' → n' ≤ n + 2 * r.length → n ≤ n' → (∀ j, j < b → m'.get j = m.get j) → Ok Q (kE 3 t' m' n' fi)) → Ok Q (loopK (comp E bd88).run F (callK E F) kN kE kR K t m n fi) := by
 intro r
 induction r with
 | nil =>
  intro a x K t m n ha hs hB hx hbn hn hK t1 t8 t63 t64 t65 H
  obtain ⟨K, rfl⟩ : ∃ k', K = k' + 1 := ⟨K - 1, by omega⟩
  rw [loopK_succ]
  have q1 : ltIK (a.length : Int) (ws.length : Int) = false := ltIK_ff (by rw [← ha]; simp)
  obtain ⟨f_t, rfl⟩ := mkT_form [(1, _), (8, _), (63, _), (64, _), (65, _)] ⟨t1, t8, t63, t64, t65, trivial⟩
  conv => arg 2; whnf
  repeat ((first | refine Ok.F ?_); conv => arg 2; whnf)
  refine H _ _ _ ?_ (by simpa [joinT] using hB) (by omega) (Nat.le_refl _) fun _ _ => rfl
  rfl
 | cons c r ih =>
  intro a x K t m n ha hs hB hx hbn hn hK t1 t8 t63 t64 t65 H
  obtain ⟨K, rfl⟩ : ∃ k', K = k' + 1 := ⟨K - 1, by omega⟩
  rw [loopK_succ]
  have hlen : a.length < ws.length := by rw [← ha]; simp
  have q1 : ltIK (a.length : Int) (ws.length : Int) = true := ltIK_tt (by omega)
  have q2 : Nat.blt a.length ws.length = true := Nat.ble_eq_true_of_le hlen
  have hi : ws[a.length]? = some c := by rw [← ha]; simp
  have ho : Nat.add o (Nat.mul a.length 1) = o + a.length := by show o + a.length * 1 = _; omega
  simp only [joinT, List.length_cons, List.length_append] at hx hn hK
  obtain ⟨f_t, rfl⟩ := mkT_form [(1, _), (8, _), (63, _), (64, _), (65, _)] ⟨t1, t8, t63, t64, t65, trivial⟩
  conv => arg 2; whnf
  repeat ((first | refine Ok.T ?_ | refine Ok.ldS hs hi ho ?_); conv => arg 2; whnf)
  refine Ok.sub (g50E h50 h121 h208 hB (by omega) (x := [32]) (by simp; omega) (by omega) hbn e1 e2 e3) fun v m1 n1 hq => ?_
  obtain ⟨hB1, hn1, hn1', hm1⟩ := hq
  conv => arg 2; whnf
  refine Ok.sub (g50E h50 h121 h208 hB1 (by omega) (x := c) (by simp; omega) (by omega) (by omega) e1 e2 e3) fun v m2 n2 hq => ?_
  obtain ⟨hB2, hn2, hn2', hm2⟩ := hq
  conv => arg 2; whnf
  refine ih (a ++ [c]) (x ++ [32] ++ c) K _ m2 n2 (by rw [← ha]; simp) (hs.keep (by rw [hm2 id hib, hm1 id hib])) hB2 (by simp; omega) (by omega) (by omega) (by omega) ?_ ?_ ?_ ?_ ?_ ?_
  ·rfl
  ·rfl
  ·rfl
  ·rfl
  ·exact res_int ((wrap1 (by omega)).trans (by simp))
  ·intro t' m' n' g8 hB' hn' hn'' hm'
   refine H t' m' n' g8 (by simpa [joinT] using hB') (by simp only [List.length_cons]; omega) (by omega) fun j hj => by rw [hm' j hj, hm2 j hj, hm1 j hj]
theorem g88 (h : Has E 106 fn88) (h50 : Has E 69 fn50) (h121 : Has E 138 fn121) (h208 : E.nat.get 216 = some tSame) (h39 : Has E 58 fn39) (h174 : Has E 184 fn174) (h246 : Has E 259 fn246) (n328 : E.nat.get 339 = none) (h328 : E.mnat.get 339 = some (tMkA 5))
  {id : Nat} {a : Bs} {r : List Bs} {cap : Option Nat} {m : Mem} {n : Nat} (hs : StrsAt id 0 (a :: r) m) (hcap : (a :: r).length ≤ capD cap (a :: r).length) (hl : r.length ≤ 900) (ha : a ≠ []) (hr : r ≠ []) (hsum : sumL (a :: r) ≤ 50000) (hid : id < n) (hn : n ≤ 150000) {K F F1 F2 F3 : Nat} (e0 : K = F + 1) (e1 : F = F1 + 1) (e2 : F1 = F2 + 1) (e3 : F2 = F3 + 1) (hF : r.length + 1 < F) :
  Ok (fun v m' n' => v = vs' (joinS (a :: r)) ∧ (∀ j, j < n → m'.get j = m.get j) ∧ n ≤ n' ∧ n' ≤ n + 2 * r.length + 3) (callK E K (.f 106) [.sl id 0 (a :: r).length cap 1, vs' [32]] m n) := by
 have hlen : (a :: r).length = r.length + 1 := rfl
 have hr1 : 1 ≤ r.length := by
  cases r with
  | nil => exact absurd rfl hr
  | cons _ _ => simp
 have hc : Int.ofNat (a :: r).length = ((r.length + 1 : Nat) : Int) := rfl
 have q1 : eqIK (Int.ofNat (a :: r).length) 0 = false := by rw [hc]; exact eqIK_ff (by omega)
 have q2 : eqIK (Int.ofNat (a :: r).length) 1 = false := by rw [hc]; exact eqIK_ff (by omega)
 have hL : Int.ofNat (lenL ([32] : Bs)) = 1 := by rw [lenL_eq]; rfl
 have q3 : ltIK 0 (Int.ofNat (lenL ([32] : Bs))) = true := by rw [hL]; rfl
 have w1 : wrapK .i64 (Int.sub (Int.ofNat (a :: r).length) 1) = (r.length : Int) := by
  rw [hc, show Int.sub ((r.length + 1 : Nat) : Int) 1 = (r.length : Int) by show ((r.length + 1 : Nat) : Int) - 1 = _; omega]; exact wrapS (by omega) (by omega)
 obtain ⟨q, hq, hq1⟩ := quoM_at (d := (r.length : Int)) (by omega) (by omega)
 have e28 : intOp .quo .i64 9223372036854775807 (wrapK .i64 (Int.sub (Int.ofNat (a :: r).length) 1)) = some (.int .i64 q) := by rw [w1]; exact hq
 have q4 : leIK q (Int.ofNat (lenL ([32] : Bs))) = false := by rw [hL]; exact leIK_ff hq1
 refine h.run e0 (show 2 ≤ 75 by omega) ?_
 conv => arg 2; whnf
 repeat ((first | refine Ok.T ?_ | refine Ok.F ?_ | refine Ok.opt (by with_reducible first | exact e28) ?_); conv => arg 2; whnf)
 have hm5 : wrapK .i64 (Int.add 0 (wrapK .i64 (Int.mul (Int.ofNat (lenL ([32] : Bs))) (wrapK .i64 (Int.sub (Int.ofNat (a :: r).length) 1))))) = ((r.length : Nat) : Int) := by
  rw [w1, hL, show Int.mul 1 (r.length : Int) = (r.length : Int) from Int.one_mul _, wrapS (n := (r.length : Int)) (by omega) (by omega), show Int.add 0 (r.length : Int) = (r.length : Int) from Int.zero_add _]
  exact wrapS (by omega) (by omega)
 refine join1_loop (E := E) (cap := cap) (v0 := .sl id 0 (a :: r).length cap 1) hs (by simp; omega) hsum (a :: r) [] r.length F _ rfl (by omega) (by simp; omega) ?_ ?_ ?_ ?_ ?_ ?_ fun t' g0 g1 g5 => ?_
 ·rfl
 ·rfl
 ·exact res_int hm5
 ·rfl
 ·rfl
 ·rfl
 obtain ⟨f_t, rfl⟩ := mkT_form [(0, _), (1, _), (5, _)] ⟨g0, g1, g5, trivial⟩
 conv => arg 2; whnf
 refine Ok.putM (by omega) fun m1 hm1 => ?_
 have hb1 : m1.get n = some (.cells [.nilp, .nils] 125) := by rw [hm1, if_pos rfl]
 have hs1 : StrsAt id 0 (a :: r) m1 := hs.keep (by rw [hm1, if_neg (by omega)])
 conv => arg 2; whnf
 refine Ok.sub (g174 h174 h121 h208 h246 n328 h328 hb1 (by omega) (by omega) (by omega) (by omega) (Nat.lt_succ_self n) e1 e2 e3) fun v m2 n2 hq => ?_
 obtain ⟨hG, hn2, hm2⟩ := hq
 have hs2 : StrsAt id 0 (a :: r) m2 := hs1.keep (hm2 id hid)
 conv => arg 2; whnf
 refine Ok.ldS hs2 (i := 0) rfl rfl ?_
 conv => arg 2; whnf
 refine Ok.sub (g50G h50 h121 hG (by omega) ha (by simp [sumL] at hsum; omega) (by omega) (by omega) e1 e2) fun v m3 n3 hq => ?_
 obtain ⟨hB, hn3, hm3⟩ := hq
 have hs3 : StrsAt id 0 (a :: r) m3 := hs2.keep (hm3 id hid)
 conv => arg 2; whnf
 have q9 : leIK (Int.ofNat (a :: r).length) (Int.ofNat (capD cap (a :: r).length)) = true := leIK_tt (Int.ofNat_le.2 hcap)
 refine Ok.T ?_
 conv => arg 2; whnf
 refine join2_loop h50 h121 h208 e1 e2 e3 (ws := r) (id := id) (o := 1) (b := n) (cap := capS' cap (toN 1)) (by omega) hid (by omega) r [] a F _ m3 n3 rfl hs3.tail hB (by rw [joinT_len]; simp [sumL] at hsum; omega) (by omega) (by omega) (by omega) ?_ ?_ ?_ ?_ ?_ fun t' m4 n4 g8 hB' hn4 hn4' hm4 => ?_
 ·rfl
 ·rfl
 ·rfl
 ·rfl
 ·rfl
 obtain ⟨f_t, rfl⟩ := mkT_form [(8, _)] ⟨g8, trivial⟩
 conv => arg 2; whnf
 refine Ok.sub (g39 h39 hB' (by omega) (by rw [List.length_append, joinT_len]; simp [sumL] at hsum; omega) e1) fun v m5 n5 hq => ?_
 obtain ⟨rfl, rfl, hm5'⟩ := hq
 conv => arg 2; whnf
 refine Ok.done ⟨by rw [joinS_T]; rfl, fun j hj => ?_, by omega⟩
 rw [hm5' j hj, hm4 j hj, hm3 j hj, hm2 j hj, hm1, if_neg (by omega)]
end
end Go.Fm
set_option maxHeartbeats 8000000
namespace Go.Fm
theorem nbeq0 {a : Nat} (h : a ≠ 0) : Nat.beq a 0 = false := by
 cases hb : Nat.beq a 0 with
 | false => rfl
 | true => exact absurd (Nat.eq_of_beq_eq_true hb) h
theorem strs_one : ∀ xs : List Bs, allOne (xs.map vs') = true
 | [] => rfl
 | x :: xs => strs_one xs
theorem NamesV.cutK {id off : Nat} {names : List Bs} {m : Mem} (h : StrsAt id off names m) (h0 : names ≠ []) : ∃ b cs, m.get id = some b ∧ id ≤ 262143 ∧ (∀ k, cellsOfB b k = k cs) ∧ Go.Fm.cutK off (Nat.mul names.length 1) cs = some (names.map vs') := by
 obtain ⟨h1, b, cs, h2, h3, h4⟩ := h
 refine ⟨b, cs, h2, h1, h3, ?_⟩
 have e : Nat.mul names.length 1 = names.length := Nat.mul_one _
 have hl : 0 < names.length := List.length_pos_iff.2 h0
 have hlast := h4 (names.length - 1) (names[names.length - 1]'(by omega)) (List.getElem?_eq_getElem (by omega))
 have hlt := (gEs hlast).1
 rw [cutK_eq, e, if_pos (by omega)]
 congr 1
 apply List.ext_getElem?
 intro i
 unfold cut
 rw [List.getElem?_take, List.getElem?_drop, List.getElem?_map]
 split
 ·rename_i hi
  rw [h4 i (names[i]'hi) (List.getElem?_eq_getElem hi), List.getElem?_eq_getElem hi]; rfl
 ·rename_i hi
  rw [List.getElem?_eq_none (by omega)]; rfl
theorem Ok.elsN {Q : V → Mem → Nat → Prop} {x nv : V} {names : List Bs} {m : Mem} {k : Nat → List V → A} (h : NamesV nv names m) (hx : x = nv) (hk : Ok Q (k names.length (names.map vs'))) : Ok Q (elsC m 1 x k) := by
 subst hx
 rcases h with ⟨rfl, rfl⟩ | ⟨id, off, cap, rfl, hs⟩
 ·exact hk
 ·by_cases h0 : names = []
  ·subst h0; exact hk
  ·obtain ⟨b, cs, h2, h1, h3, hc⟩ := NamesV.cutK (hs.resolve_left h0) h0
   have hb : Nat.beq names.length 0 = false := nbeq0 fun h => h0 (List.length_eq_zero_iff.1 h)
   show Ok Q (Bool.rec (motive := fun _ => A) (Go.Fm.getM m id fun b => cellsOfB b fun cs => bindA (Go.Fm.cutK off (Nat.mul names.length 1) cs) fun l => k names.length l) (k 0 []) (Nat.beq names.length 0))
   refine Ok.ff hb ?_
   refine Ok.getM h2 h1 ?_
   rw [h3, hc]; exact hk
def WordsV (v : V) (ws : List Bs) (lo hi : Nat) (m : Mem) : Prop := ∃ id cap, v = .sl id 0 ws.length cap 1 ∧ m.get id = some (.cells (ws.map vs') 9) ∧ lo ≤ id ∧ id < hi ∧ (cap = none ∨ cap = some ws.length) ∧ ws ≠ []
theorem WordsV.keep {v : V} {ws : List Bs} {lo hi hi' : Nat} {m m' : Mem} (h : WordsV v ws lo hi m) (hh : hi ≤ hi') (hm : ∀ j, j < hi → m'.get j = m.get j) : WordsV v ws lo hi' m' := by
 obtain ⟨id, cap, h1, h2, h3, h4, h5, h6⟩ := h
 exact ⟨id, cap, h1, by rw [hm id h4]; exact h2, h3, by omega, h5, h6⟩
theorem Ok.appW {Q : V → Mem → Nat → Prop} {s : V} {ws xs : List Bs} {lo hi : Nat} {m : Mem} {n k : Nat} {kt : V → Mem → Nat → A} (hw : WordsV s ws lo hi m) (hhi : hi ≤ n) (hk : xs.length = k) (hr : ws.length + xs.length ≤ 1000) (hn : n ≤ 200000)
  (H : ∀ s' m' n', WordsV s' (ws ++ xs) lo n' m' → n ≤ n' → n' ≤ n + 1 → (∀ j, j < lo → m'.get j = m.get j) → Ok Q (kt s' m' n')) : Ok Q (appVC m n 1 16 9 s k (xs.map vs') kt) := by
 obtain ⟨id, cap, rfl, hg, hlo, hid, hc, h0⟩ := hw
 subst hk
 have hl : 0 < ws.length := List.length_pos_iff.2 h0
 have hrm : roomOk (ws.length + xs.length) 16 = true := by simp [roomOk]; omega
 have hm0 : (ws.map vs').length = ws.length := List.length_map _
 have hcut : cut 0 (ws.length * 1) (ws.map vs') = ws.map vs' := by
  unfold cut; rw [List.drop_zero, Nat.mul_one, ← hm0, List.take_length]
 have b0 : (ws.length == 0) = false := beq_eq_false_iff_ne.2 (by omega)
 have hle : Nat.ble (0 + ws.length * 1) (ws.map vs').length = true := Nat.ble_eq_true_of_le (by rw [hm0]; omega)
 have hels : ∀ c, elsV m 1 (.sl id 0 ws.length c 1) = some (ws.length, ws.map vs') := fun c => by
  simp only [elsV, beq_self_eq_true, cond_true, b0, cond_false, hg, rd, hle, hcut]
 rcases hc with rfl | rfl
 ·
  have b2 : Nat.beq (Nat.add ws.length xs.length) 0 = false := nbeq0 (show ws.length + xs.length ≠ 0 by omega)
  show Ok Q (guardA (Nat.beq 1 1) (guardA (roomOk (Nat.add ws.length xs.length) 16) (Bool.rec (motive := fun _ => A) (elsC m 1 (.sl id 0 ws.length none 1) fun _ old => Go.Fm.getM m id fun b => typeOfB b 9 (Go.Fm.putM m id none fun m => newC m n (List.append old (xs.map vs')) 9 (.sl n 0 (Nat.add ws.length xs.length) none 1) kt)) none (Nat.beq (Nat.add ws.length xs.length) 0))))
  refine Ok.tt hrm ?_
  refine Ok.ff b2 ?_
  refine Ok.elsN (names := ws) (.inr ⟨id, 0, none, rfl, .inr ⟨by omega, _, _, hg, fun _ => rfl, fun i x hx => by rw [Nat.zero_add, List.getElem?_map, hx]; rfl⟩⟩) rfl ?_
  refine Ok.getM hg (by omega) ?_
  show Ok Q (Go.Fm.putM m id none fun m => newC m n (List.append (ws.map vs') (xs.map vs')) 9 (.sl n 0 (Nat.add ws.length xs.length) none 1) kt)
  refine Ok.putM (by omega) fun m1 hm1 => ?_
  refine Ok.putM (by omega) fun m2 hm2 => ?_
  refine H _ _ _ ⟨n, none, by rw [List.length_append]; rfl, by rw [hm2, if_pos rfl, List.map_append]; rfl, by omega, by omega, .inl rfl, by simp [h0]⟩ (by omega) (by omega) fun j hj => ?_
  rw [hm2, if_neg (by omega), hm1, if_neg (by omega)]
 ·show Ok Q (bindA (appendV m n 1 16 9 (.sl id 0 ws.length (some ws.length) 1) xs.length (xs.map vs')) (un3 kt))
  by_cases hx : xs = []
  ·subst hx
   obtain ⟨m1, hm1⟩ := Tr.set_ok (d := 6) (f := fuel) (k := id) (by show id < 262144; omega) m (some (.cells (ws.map vs') 9) : Option B)
   have e : appendV m n 1 16 9 (.sl id 0 ws.length (some ws.length) 1) ([] : List Bs).length (([] : List Bs).map vs') = some (.sl id 0 ws.length (some ws.length) 1, m1, n) := by
    have hrm' : roomOk (ws.length + ([] : List Bs).length) 16 = true := hrm
    have a1 : Nat.ble (ws.length + ([] : List Bs).length) ws.length = true := Nat.ble_eq_true_of_le (by simp)
    have a2 : Nat.ble (0 + ws.length * 1) (ws.map vs').length = true := hle
    have a3 : (ws.map vs').take (0 + ws.length * 1) ++ ([] : List Bs).map vs' ++ (ws.map vs').drop (0 + ws.length * 1 + (([] : List Bs).map vs').length) = ws.map vs' := by
     simp
    simp only [appendV, beq_self_eq_true, hrm', Bool.and_self, cond_true, a1, hg, a2, a3, hm1, Option.map_some]
    rfl
   rw [e]
   refine H _ _ _ ⟨id, some ws.length, by simp, by rw [Tr.get_set hm1, if_pos rfl]; simp, hlo, by omega, .inr (by simp), by simp [h0]⟩ (Nat.le_refl _) (by omega) fun j hj => ?_
   rw [Tr.get_set hm1, if_neg (by omega)]
  ·have hx0 : 0 < xs.length := List.length_pos_iff.2 hx
   obtain ⟨m2, hm2⟩ := Tr.set_ok (d := 6) (f := fuel) (k := n) (by show n < 262144; omega) m (some (.cells (ws.map vs' ++ xs.map vs') 9) : Option B)
   have e : appendV m n 1 16 9 (.sl id 0 ws.length (some ws.length) 1) xs.length (xs.map vs') = some (.sl n 0 (ws.length + xs.length) none 1, m2, n + 1) := by
    have a1 : Nat.ble (ws.length + xs.length) ws.length = false := by
     cases hb : Nat.ble (ws.length + xs.length) ws.length with
     | false => rfl
     | true => have := nLb hb; omega
    simp only [appendV, beq_self_eq_true, hrm, Bool.and_self, cond_true, a1, cond_false, hels, Option.bind_some, newB, hm2, Option.map_some]
   rw [e]
   refine H _ _ _ ⟨n, none, by rw [List.length_append], by rw [Tr.get_set hm2, if_pos rfl, List.map_append], by omega, by omega, .inl rfl, by simp [h0]⟩ (by omega) (by omega) fun j hj => ?_
   rw [Tr.get_set hm2, if_neg (by omega)]
end Go.Fm
namespace Go.Fm
def tl3 : RC := qo [qv 118 2,qc 119 13 [118],qv 117 119,qe 120 117 0,qe 121 117 1,qm 18 (.alloc [vi 0,qz,.nils,.nils,qz] 25),qw (.store 5 18 120),qv 19 121] (qo [qv 122 12,qv 123 19,qb 124 .eql 122 123,qv 125 124,qmg 126 125 true (.load 5 true 11),qmg 127 125 true (.buildSl [vi 0,qz,.nils,.nils,qz] 1 5 [(0,5,126)] 25),qmg 128 125 true (.load 5 true 18),qmg 129 125 true (.buildSl [vi 0,qz,.nils,.nils,qz] 1 5 [(0,5,128)] 25),qcg 130 125 true 14 [127,129],qk 131 125 130 qF,qv 132 131,qcg 133 132 true 5 [],qk 134 132 133 qF,qv 6 134] .ret)
def fe3 : RFn := ⟨135,qo [qm 3 (.box 0 25),qv 6 qF] (.seq (qo [qm 20 (.load 5 true 3),qm 21 (.buildSl [vi 0,qz,.nils,.nils,qz] 1 5 [(0,5,20)] 25),qc 22 4 [21],qt 23 22,qv 24 23,qg 25 24 false (.mv 1),qg 26 24 false (.lenStr 25),qg 27 24 false (.bin .gtr .i64 26 (qI 1200)),qk 28 24 qT 27,qv 29 28,qg 30 29 false (.mv 2),qg 31 29 false (.lenStr 30),qg 32 29 false (.bin .gtr .i64 31 (qI 1200)),qk 33 29 qT 32] (.cond 33 (qo [qc 34 5 [],qv 6 34] .ret) .skip)) (qo [qm 36 (.load 5 true 3),qc 37 6 [36],qv 35 37,qe 38 35 0,qe 39 35 1,qv 7 38,qv 8 39] (qo [qv 41 1,qm 42 (.load 5 true 3),qc 43 7 [41,42],qv 40 43,qe 44 40 0,qe 45 40 1,qv 9 44,qv 10 45] (qo [qv 47 2,qc 48 8 [47],qv 46 48,qe 49 46 0,qe 50 46 1,qm 11 (.alloc [vi 0,qz,.nils,.nils,qz] 25),qw (.store 5 11 49),qv 12 50] (qo [qm 51 (.load 5 true 3),qc 52 9 [51],qv 13 52] (qo [qv 54 1,qc 55 10 [54],qv 53 55,qe 56 53 0,qe 57 53 1,qe 58 53 2,qv 14 56,qv 15 57,qv 16 58] (qo [qv 59 16,qv 60 13,qm 61 (.buildSl [vi 0] 2 1 [(0,1,59),(1,1,60)] 3),qc 62 11 [61],qv 17 62] (.seq (qo [qv 63 17,qb 64 .eql 63 (qI 0),qv 65 64,qg 66 65 true (.mv 14),qg 67 65 true (.lenS 66),qg 68 65 true (.bin .geq .i64 67 (qI 1000)),qk 69 65 68 qF] (.cond 69 (.ops [qv 17 (qI 5)]) .skip)) (.seq (qo [qv 70 8,qv 71 13,qb 72 .neq 70 71,qv 73 72,qg 74 73 false (.mv 13),qg 75 73 false (.bin .eql .i64 74 (qI 0)),qg 76 73 false (.mv 75),qg 77 76 true (.mv 7),qmg 78 76 true (.load 5 true 3),qcg 79 76 true 12 [78],qg 80 76 true (.strop .neq 77 79),qg 81 73 false (.pick 76 80 qF),qk 82 73 qT 81,qv 83 82,qg 84 83 false (.mv 13),qg 85 83 false (.bin .neq .i64 84 (qI 0)),qg 86 83 false (.mv 85),qg 87 86 true (.mv 7),qg 88 86 true (.strop .neq 87 (qX [])),qg 89 83 false (.pick 86 88 qF),qk 90 83 qT 89,qv 91 90,qg 92 91 false (.mv 10),qg 93 91 false (.mv 17),qg 94 91 false (.bin .neq .i64 92 93),qk 95 91 qT 94,qv 96 95,qg 97 96 false (.mv 17),qg 98 96 false (.bin .eql .i64 97 (qI 0)),qg 99 96 false (.mv 98),qg 100 99 true (.mv 9),qg 101 99 true (.mv 1),qmg 102 99 true (.load 5 true 3),qcg 103 99 true 12 [102],qg 104 99 true (.strop .add 101 103),qg 105 99 true (.strop .add 104 (qX [10])),qg 106 99 true (.strop .neq 100 105),qg 107 96 false (.pick 99 106 qF),qk 108 96 qT 107,qv 109 108,qg 110 109 false (.mv 17),qg 111 109 false (.bin .neq .i64 110 (qI 0)),qg 112 109 false (.mv 111),qg 113 112 true (.mv 9),qg 114 112 true (.strop .neq 113 (qX [])),qg 115 109 false (.pick 112 114 qF),qk 116 109 qT 115] (.cond 116 (qo [qv 6 qF] .ret) .skip)) tl3))))))))),[(.t 6)]⟩
abbrev be4 : RC := qo [qb 42 .lss 41 40] (.seq (.cond 42 .skip (.exit 2)) (.seq (.block 3 (qo [q 43 (.idxS 1 39 41),ql 44 43,qv 6 44] (qo [qv 45 6,qs 46 45,qb 47 .gtr 46 (qI 60)] (.cond 47 (qo [qv 2 qF] .ret) .skip)))) (.ops [qb 48 .add 41 (qI 1),qv 41 48])))
abbrev be4b : RC := qo [qb 13 .lss 12 11] (.seq (.cond 13 .skip (.exit 0)) (.seq (.block 1 (qo [q 14 (.idxS 5 10 12),qm 15 (.load 5 true 14),qm 4 (.alloc [vi 0,qz,.nils,.nils,qz] 25),qw (.store 5 4 15)] (.seq (qo [qf 16 1 4,ql 17 16,qs 18 17,qb 19 .gtr 18 (qI 60),qv 20 19,qg 21 20 false (.fieldA 2 4),qmg 22 20 false (.load 1 false 21),qg 23 20 false (.lenS 22),qg 24 20 false (.bin .gtr .i64 23 (qI 4)),qk 25 20 qT 24,qv 26 25,qg 27 26 false (.fieldA 3 4),qmg 28 26 false (.load 1 false 27),qg 29 26 false (.lenS 28),qg 30 26 false (.bin .gtr .i64 29 (qI 4)),qk 31 26 qT 30,qv 32 31,qg 33 32 false (.fieldA 4 4),qmg 34 32 false (.load 1 false 33),qg 35 32 false (.lenStr 34),qg 36 32 false (.bin .gtr .i64 35 (qI 700)),qk 37 32 qT 36] (.cond 37 (qo [qv 2 qF] .ret) .skip)) (qo [qf 38 2 4,ql 39 38,qS 40 39,qv 41 (qI 0)] (.block 2 (.loop be4)))))) (.ops [qb 49 .add 12 (qI 1),qv 12 49])))
def fe4 : RFn := ⟨50,qo [qv 2 qF] (.seq (qo [qv 7 0,qS 8 7,qb 9 .gtr 8 (qI 14)] (.cond 9 (qo [qv 2 qF] .ret) .skip)) (.seq (qo [qv 10 0,qS 11 10,qv 12 (qI 0)] (.block 0 (.loop be4b))) (qo [qv 2 qT] .ret))),[(.t 2)]⟩
def fe6 : RFn := ⟨12,qo [qm 1 (.box 0 25),qv 2 (qX []),qv 3 (qI 0)] (.seq (qo [qm 5 (.load 5 true 1),qc 6 27 [5],qv 4 6] (qo [qv 7 4,qb 8 .neq 7 (qI 0)] (.cond 8 (qo [qv 9 4,qv 2 (qX []),qv 3 9] .ret) .skip))) (qo [qm 10 (.load 5 true 1),qc 11 28 [10],qv 2 11,qv 3 (qI 0)] .ret)),[(.t 2),(.t 3)]⟩
def fe7 : RFn := ⟨37,qo [qm 3 (.box 1 25),qv 4 (qX []),qv 5 (qI 0)] (qo [qv 11 0,qc 12 25 [11],qv 10 12,qe 13 10 0,qe 14 10 1,qe 15 10 2,qv 6 13,qv 7 14,qv 8 15] (.seq (qo [qv 16 8,qm 17 (.load 5 true 3),qc 18 27 [17],qv 19 6,qS 20 19,qb 21 .geq 20 (qI 1000),qc 22 30 [21,qI 5],qm 23 (.buildSl [vi 0] 3 1 [(0,1,16),(1,1,18),(2,1,22)] 29),qc 24 29 [23],qv 8 24] (qo [qv 25 8,qb 26 .neq 25 (qI 0)] (.cond 26 (qo [qv 27 8,qv 4 (qX []),qv 5 27] .ret) .skip))) (qo [qv 28 0,qm 29 (.load 5 true 3),qc 30 28 [29],q 31 (.strop .add 28 30),q 32 (.strop .add 31 (qX [10])),qv 9 32] (.seq (qo [qv 33 9,qs 34 33,qb 35 .gtr 34 (qI 1000000)] (.cond 35 (qo [qv 4 (qX []),qv 5 (qI 29)] .ret) .skip)) (qo [qv 36 9,qv 4 36,qv 5 (qI 0)] .ret))))),[(.t 4),(.t 5)]⟩
def fe12 : RFn := ⟨11,qo [qm 1 (.box 0 25),qv 2 (qX [])] (qo [qm 4 (.load 5 true 1),qc 5 37 [4],qv 3 5] (qo [qv 6 3,qc 7 38 [6],q 8 (.strop .add 7 (qX [32])),qv 9 3,q 10 (.strop .add 8 9),qv 2 10] .ret)),[(.t 2)]⟩
abbrev be37 : RC := .seq (qo [qv 15 4,qf 16 2 1,ql 17 16,qS 18 17,qb 19 .lss 15 18] (.cond 19 .skip (.exit 0))) (.seq (.block 1 (.ops [qv 22 3,q 23 (.strop .add 22 (qX [32])),qf 24 2 1,ql 25 24,qv 26 4,q 27 (.idxS 1 25 26),ql 28 27,q 29 (.strop .add 23 28),qv 3 29])) (.ops [qv 20 4,qb 21 .add 20 (qI 1),qv 4 21]))
def fe37 : RFn := ⟨45,qo [qm 1 (.box 0 25),qv 2 (qX [])] (.seq (.drawn [⟨[⟨0,qf 8 0 1⟩,⟨1,ql 9 8⟩,⟨4,qf 12 1 1⟩,⟨5,ql 13 12⟩],[],some ⟨2,qc 10 63 [9]⟩,[⟨5,ql 13 12⟩]⟩,⟨[⟨3,q 11 (.strop .add 10 (qX [32]))⟩,⟨6,q 14 (.strop .add 11 13)⟩,⟨7,qv 3 14⟩],[],none,[]⟩]) (.seq (qo [qv 4 (qI 0)] (.block 0 (.loop be37))) (qo [qf 31 1 1,ql 32 31,qc 33 35 [32],qv 30 33,qe 34 30 0,qe 35 30 1,qe 36 30 2,qv 5 34,qv 6 35,qv 7 36] (.seq (qo [qv 37 6] (.cond 37 (.ops [qv 38 3,q 39 (.strop .add 38 (qX [32])),qf 40 4 1,ql 41 40,qc 42 24 [41],q 43 (.strop .add 39 42),qv 3 43]) .skip)) (qo [qv 44 3,qv 2 44] .ret))))),[(.t 2)]⟩
structure Tab (E : Env') : Prop where
 h3 : Has E 3 fe3
 h4 : Has E 4 fe4
 h5 : E.nat.get 5 = some tAwake
 h6 : Has E 6 fe6
 h7 : Has E 7 fe7
 n8 : E.nat.get 8 = none
 h8 : E.mnat.get 8 = some (tEv decO)
 h9 : Has E 9 fn62
 h10 : Has E 10 fn6
 h11 : Has E 11 fn21
 h12 : Has E 12 fe12
 n13 : E.nat.get 13 = none
 h13 : E.mnat.get 13 = some (tEv decO)
 h14 : Has E 14 fn7
 h24 : E.nat.get 24 = some tEsc
 h25 : Has E 25 fn5
 h27 : Has E 27 fn56
 h28 : Has E 28 fn51
 h29 : Has E 29 fn21
 h30 : E.nat.get 30 = some tWhen
 h31 : E.nat.get 31 = some tCut1
 h33 : E.nat.get 33 = some tSumS
 h35 : E.nat.get 35 = some tKSize
 h36 : E.nat.get 36 = some tNameS
 h37 : Has E 37 fe37
 h38 : E.nat.get 38 = some tSumS
 h43 : Has E 43 fn24
 h47 : E.nat.get 47 = some tNameS
 h58 : Has E 58 fn39
 h63 : E.nat.get 63 = some tFromInt
 h65 : E.nat.get 65 = some tForm
 h69 : Has E 69 fn50
 h70 : Has E 70 fn114
 h71 : Has E 71 fn129
 h72 : Has E 72 fn122
 h77 : E.nat.get 77 = some tFromInt
 h106 : Has E 106 fn88
 h138 : Has E 138 fn121
 h139 : Has E 139 fn203
 h140 : E.nat.get 140 = some tEscP
 h184 : Has E 184 fn174
 h216 : E.nat.get 216 = some tSame
 h259 : Has E 259 fn246
 n339 : E.nat.get 339 = none
 h339 : E.mnat.get 339 = some (tMkA 5)
end Go.Fm
set_option maxHeartbeats 8000000
namespace Go.Fm
structure Good (e : EvG) : Prop where
 h1 : 1 ≤ e.num
 h2 : e.num ≤ 1000
 form : ∃ k tx, formS e.kind = some (k, tx)
 hk : e.kind.length ≤ 60
 hn : e.names.length ≤ 4
 hx : ∀ x ∈ e.names, x.length ≤ 60
 ht : e.text.length ≤ 700
theorem nDig_le : ∀ (k u : Nat), u < 10 ^ k → 0 < k → Lib.nDigits u ≤ k
 | 0, _, _, h => absurd h (by omega)
 | k + 1, u, h, _ => by
  unfold Lib.nDigits
  split
  ·omega
  ·rename_i hu
   have h2 : u / 10 < 10 ^ k := by
    rw [Nat.div_lt_iff_lt_mul (by omega)]; rw [Nat.pow_succ] at h; omega
   cases k with
   | zero => simp at h; omega
   | succ k => have := nDig_le (k + 1) (u / 10) h2 (by omega); omega
theorem dec_len {u k : Nat} (h : u < 10 ^ k) (hk : 0 < k) : (Lib.decDigits u).length ≤ k := by rw [Lib.decDigits_length]; exact nDig_le k u h hk
theorem dec_ne (u : Nat) : Lib.decDigits u ≠ [] := by
 rw [Lib.decDigits]; split
 ·simp
 ·simp
theorem sum_app : ∀ a b : List Bs, sumL (a ++ b) = sumL a + sumL b
 | [], b => by simp [sumL]
 | x :: a, b => by simp only [List.cons_append, sumL, sum_app a b]; omega
theorem sum_le {c : Nat} : ∀ a : List Bs, (∀ x ∈ a, x.length ≤ c) → sumL a ≤ c * a.length
 | [], _ => by simp [sumL]
 | x :: a, h => by
  have h1 := h x (by simp)
  have h2 := sum_le a fun y hy => h y (by simp [hy])
  simp only [sumL, List.length_cons, Nat.mul_add, Nat.mul_one]; omega
theorem words_sum {e : EvG} (hg : Good e) : sumL (wordsG e) ≤ 2000 := by
 have h1 : (Lib.decDigits e.num.toNat).length ≤ 4 := dec_len (by have := hg.h2; omega) (by omega)
 have h2 := sum_le (c := 60) e.names hg.hx
 have h3 := hg.hn
 have h4 := hg.hk
 have h5 := escS_len e.text
 have h6 := hg.ht
 obtain ⟨k, tx, hf⟩ := hg.form
 unfold wordsG
 rw [hf]
 cases tx
 ·simp only [sumL, sum_app]; omega
 ·simp only [sumL, sum_app]; omega
section
variable {E : Env'} {Q : V → Mem → Nat → Prop}
attribute [local irreducible] Ok callK loopK lenL nthL takeL dropL eqBs getM putM appVC evM cutK wrapK elsC
theorem g88W (T : Tab E) {s : V} {ws : List Bs} {lo hi : Nat} {e : EvG} {m : Mem} {n : Nat} (hw : WordsV s ws lo hi m) (hhi : hi ≤ n) (he : wordsG e = ws) (hg : Good e) (hn : n ≤ 150000) {K F F1 F2 F3 : Nat} (e0 : K = F + 1) (e1 : F = F1 + 1) (e2 : F1 = F2 + 1) (e3 : F2 = F3 + 1) (hF : 100 < F) :
  Ok (fun v m' n' => v = vs' (bodyG e) ∧ (∀ j, j < n → m'.get j = m.get j) ∧ n ≤ n' ∧ n' ≤ n + 20) (callK E K (.f 106) [s, vs' [32]] m n) := by
 have hsum := words_sum hg
 have hgn := hg.hn
 obtain ⟨id, cap, rfl, hgt, hlo, hid, hc, h0⟩ := hw
 subst he
 have hlen : (wordsG e).length ≤ 7 := by
  unfold wordsG; simp only [List.length_cons, List.length_append]; split <;> simp <;> omega
 unfold bodyG
 obtain ⟨b, r, hb⟩ : ∃ b r, wordsG e = Lib.decDigits e.num.toNat :: b :: r := ⟨_, _, rfl⟩
 rw [hb] at hgt hc hsum hlen ⊢
 refine (g88 T.h106 T.h69 T.h138 T.h216 T.h58 T.h184 T.h259 T.n339 T.h339 (r := b :: r) ⟨by omega, _, _, hgt, fun _ => rfl, fun i x hx => by rw [Nat.zero_add, List.getElem?_map, hx]; rfl⟩ ?_ (by simp at hlen; simp; omega) (dec_ne _) (by simp) (by omega) (by omega) hn e0 e1 e2 e3 (by simp at hlen; simp; omega)).mono fun v m' n' hq => ⟨hq.1, hq.2.1, by have := hq.2.2; simp at hlen this; omega⟩
 rcases hc with rfl | rfl
 ·exact Nat.le_refl _
 ·exact Nat.le_refl _
theorem g122 (T : Tab E) {e : EvG} {nv vv : V} {m : Mem} {n : Nat} (hn : n ≤ 100000) (hs : NamesV nv e.names m) (hlow : LowV nv n) (hv : LenV vv e.vals) (hg : Good e) {K F F1 F2 F3 F4 : Nat} (e0 : K = F + 1) (e1 : F = F1 + 1) (e2 : F1 = F2 + 1) (e3 : F2 = F3 + 1) (e4 : F3 = F4 + 1) (hF : 100 < F4) :
  Ok (fun v m' n' => v = vs' (bodyG e) ∧ (∀ j, j < n → m'.get j = m.get j) ∧ n ≤ n' ∧ n' ≤ n + 30) (callK E K (.f 72) [evV e nv vv] m n) := by
 obtain ⟨k, tx, hform⟩ := hg.form
 have hg1 := hg.h1
 have hg2 := hg.h2
 have hgn := hg.hn
 have hkl := hg.hk
 have htl := hg.ht
 have hl := hs.len
 have hsame := hl.same
 obtain ⟨N, hN⟩ : ∃ N : Nat, e.num = (N : Int) := ⟨e.num.toNat, by omega⟩
 have e77 : tFromInt [vi e.num] = some (vs' (Lib.decDigits N)) := by rw [hN]; exact tFromInt_at (by omega)
 have e65 := tForm_at hform (by omega)
 have e140 := tEscP_at (l := e.text) (by omega)
 refine T.h72.run e0 (show 1 ≤ 31 by omega) ?_
 unfold evV
 conv => arg 2; whnf
 refine Ok.putM (by omega) fun m1 hm1 => ?_
 have g1 : m1.get n = some (.cells [vi e.num, vs' e.kind, nv, vv, vs' e.text] 25) := by (rw [hm1, if_pos rfl]) <;> rfl
 conv => arg 2; whnf
 repeat ((first | refine Ok.ld1 g1 (by omega) (by with_reducible first | exact cE0 | exact cE1 | exact cE2 | exact cE3 | exact cE4) ?_ | refine Ok.opt (callK_natE T.h77 e1 e77 _ _) ?_); conv => arg 2; whnf)
 refine Ok.tt ?_ ?_
 ·repeat (first | with_reducible exact recs_nil | refine recs1 rfl rfl ?_ ?_)
  all_goals first | exact recs_nil | ((conv => arg 2; whnf); (first | refine Ok.ld1 g1 (by omega) (by with_reducible first | exact cE0 | exact cE1 | exact cE2 | exact cE3 | exact cE4) ?_); refine Ok.done ?_; (first | exact hsame | rfl | (show V.same _ _ = true; simp [V.same, sameL, same1, vs', vi, nvOf])))
 conv => arg 2; whnf
 refine Ok.tt (Nat.ble_eq_true_of_le (by omega)) ?_
 conv => arg 2; whnf
 refine Ok.putM (by omega) fun m2 hm2 => ?_
 have hk2 : ∀ j, j < n → m2.get j = m.get j := fun j hj => by rw [hm2, if_neg (by omega), hm1, if_neg (by omega)]
 have g1 : m2.get n = some (.cells [vi e.num, vs' e.kind, nv, vv, vs' e.text] 25) := by rw [hm2, if_neg (by omega)]; exact g1
 have hs2 : NamesV nv e.names m2 := hs.keep hlow hk2
 have hw2 : WordsV (.sl (n + 1) 0 2 (some 2) 1) [Lib.decDigits N, e.kind] (n + 1) (n + 2) m2 := ⟨n + 1, some 2, rfl, by (rw [hm2, if_pos rfl]) <;> rfl, by omega, by omega, .inr rfl, by simp⟩
 conv => arg 2; whnf
 refine Ok.elsN hs2 rfl ?_
 conv => arg 2; whnf
 refine Ok.tt (strs_one _) ?_
 conv => arg 2; whnf
 refine Ok.appW hw2 (Nat.le_refl _) rfl (by simp; omega) (by omega) fun s3 m3 n3 hw3 hn3 hn3' hm3 => ?_
 conv => arg 2; whnf
 have g1 : m3.get n = some (.cells [vi e.num, vs' e.kind, nv, vv, vs' e.text] 25) := by rw [hm3 n (by omega)]; exact g1
 repeat ((first | refine Ok.ld1 g1 (by omega) (by with_reducible first | exact cE0 | exact cE1 | exact cE2 | exact cE3 | exact cE4) ?_ | refine Ok.opt (callK_natE T.h65 e1 e65 _ _) ?_); conv => arg 2; whnf)
 refine Ok.putM (by omega) fun m4 hm4 => ?_
 have g4 : m4.get n3 = some (.cells [vi 0, .bool false] 155) := by (rw [hm4, if_pos rfl]) <;> rfl
 conv => arg 2; whnf
 refine Ok.getM g4 (by omega) ?_
 conv => arg 2; whnf
 refine Ok.putM (by omega) fun m5 hm5 => ?_
 have g5 : m5.get n3 = some (.cells [vi (k : Nat), .bool tx] 155) := by (rw [hm5, if_pos rfl]) <;> rfl
 have hk5 : ∀ j, j < n3 → m5.get j = m3.get j := fun j hj => by rw [hm5, if_neg (by omega), hm4, if_neg (by omega)]
 have g1 : m5.get n = some (.cells [vi e.num, vs' e.kind, nv, vv, vs' e.text] 25) := by rw [hk5 n (by omega)]; exact g1
 have cF1 : cutK (Nat.add 0 1) 1 [vi (k : Nat), .bool tx] = some [.bool tx] := by rw [cutK_eq]; rfl
 have hw5 := hw3.keep (Nat.le_succ n3) hk5
 conv => arg 2; whnf
 refine Ok.ld1 g5 (by omega) cF1 ?_
 cases tx with
 | true =>
  conv => arg 2; whnf
  repeat ((first | refine Ok.ld1 g1 (by omega) (by with_reducible first | exact cE0 | exact cE1 | exact cE2 | exact cE3 | exact cE4) ?_ | refine Ok.opt (callK_natE T.h140 e1 e140 _ _) ?_); conv => arg 2; whnf)
  refine Ok.putM (by omega) fun m6 hm6 => ?_
  have hk6 : ∀ j, j < n3 + 1 → m6.get j = m5.get j := fun j hj => by rw [hm6, if_neg (by omega)]
  have hs6 : NamesV (.sl (n3 + 1) 0 1 (some 1) 1) [escS e.text] m6 := .inr ⟨n3 + 1, 0, some 1, rfl, .inr ⟨by omega, _, _, (by rw [hm6, if_pos rfl]), fun _ => rfl, fun i x hx => by
   match i with
   | 0 => simp at hx; subst hx; rfl
   | i + 1 => simp at hx⟩⟩
  have hw6 := hw5.keep (hi' := n3 + 2) (by omega) hk6
  conv => arg 2; whnf
  refine Ok.elsN hs6 rfl ?_
  conv => arg 2; whnf
  refine Ok.appW (xs := [escS e.text]) hw6 (Nat.le_refl _) rfl (by simp; omega) (by omega) fun s7 m7 n7 hw7 hn7 hn7' hm7 => ?_
  conv => arg 2; whnf
  refine Ok.sub (g88W T (e := e) hw7 (Nat.le_refl _) (by unfold wordsG; rw [hform, hN]; simp) hg (by omega) e1 e2 e3 e4 (by omega)) fun v m8 n8 hq => ?_
  obtain ⟨rfl, hm8, hn8⟩ := hq
  conv => arg 2; whnf
  refine Ok.done ⟨rfl, fun j hj => ?_, by omega⟩
  rw [hm8 j (by omega), hm7 j (by omega), hk6 j (by omega), hk5 j (by omega), hm3 j (by omega), hk2 j hj]
 | false =>
  conv => arg 2; whnf
  refine Ok.sub (g88W T (e := e) hw5 (Nat.le_refl _) (by unfold wordsG; rw [hform, hN]; simp) hg (by omega) e1 e2 e3 e4 (by omega)) fun v m8 n8 hq => ?_
  obtain ⟨rfl, hm8, hn8⟩ := hq
  conv => arg 2; whnf
  refine Ok.done ⟨rfl, fun j hj => ?_, by omega⟩
  rw [hm8 j (by omega), hk5 j (by omega), hm3 j (by omega), hk2 j hj]
end
end Go.Fm
set_option maxHeartbeats 8000000
namespace Go.Fm
theorem tSumS_at {l : Bs} (hl : l.length ≤ 100000) : tSumS [vs' l] = some (vs' (Lib.decDigits (sumS l))) := by unfold tSumS; rw [sT_at hl]
theorem body_len {e : EvG} (hg : Good e) : (bodyG e).length ≤ 3000 := by
 have hsum := words_sum hg
 have hgn := hg.hn
 have hlen : (wordsG e).length ≤ 7 := by
  unfold wordsG; simp only [List.length_cons, List.length_append]; split <;> simp <;> omega
 unfold bodyG
 obtain ⟨r, hr⟩ : ∃ r, wordsG e = Lib.decDigits e.num.toNat :: r := ⟨_, rfl⟩
 rw [hr] at hsum hlen ⊢
 rw [joinS_T, List.length_append, joinT_len]
 simp only [sumL, List.length_cons] at hsum hlen; omega
theorem sum_len (l : Bs) : (Lib.decDigits (sumS l)).length ≤ 7 := dec_len (by have := sum_lt l; omega) (by omega)
theorem enc_eq (e : EvG) : List.append (List.append (Lib.decDigits (sumS (bodyG e))) [32]) (bodyG e) = encG e := by
 show (Lib.decDigits (sumS (bodyG e)) ++ [32]) ++ bodyG e = _
 unfold encG; simp
theorem enc_len {e : EvG} (hg : Good e) : (encG e).length ≤ 3100 := by
 have := body_len hg; have := sum_len (bodyG e)
 unfold encG; simp only [List.length_append, List.length_cons]; omega
theorem addOk2 {a b : Bs} (h : a.length + b.length ≤ 1000000) : Nat.ble (Nat.add (lenL (List.append a [32])) (lenL b)) 9223372036854775807 = true := addOk (by have : (List.append a [32]).length = a.length + 1 := (by show (a ++ [32]).length = _; simp); omega)
theorem joinT_app : ∀ a b : List Bs, joinT (a ++ b) = joinT a ++ joinT b
 | [], b => rfl
 | x :: a, b => by simp [joinT, joinT_app a b]
structure Heard (e : EvG) : Prop where
 hk : e.kind.length ≤ 60
 hn : e.names.length ≤ 4
 hx : ∀ x ∈ e.names, x.length ≤ 60
 ht : e.text.length ≤ 700
 hv : e.vals ≤ 4
theorem Heard.few {e : EvG} (h : Heard e) : Few e := ⟨by have := h.hn; omega, fun x hx => by have := h.hx x hx; omega, by have := h.hk; omega, by have := h.ht; omega, by have := h.hv; omega⟩
theorem Heard.good {e : EvG} (h : Heard e) (hc : chkG e = 0) : Good e := by
 unfold chkG at hc
 split at hc
 ·cases hc
 ·rename_i hn
  refine ⟨by omega, by omega, ?_, h.hk, h.hn, h.hx, h.ht⟩
  cases hf : formS e.kind with
  | none => rw [hf] at hc; cases hc
  | some f => exact ⟨f.1, f.2, rfl⟩
section
variable {E : Env'} {Q : V → Mem → Nat → Prop}
attribute [local irreducible] Ok callK loopK lenL nthL takeL dropL eqBs getM putM appVC evM cutK wrapK elsC
theorem g51 (T : Tab E) {e : EvG} {nv vv : V} {m : Mem} {n : Nat} (hn : n ≤ 90000) (hs : NamesV nv e.names m) (hlow : LowV nv n) (hv : LenV vv e.vals) (hg : Good e) {K F F1 F2 F3 F4 F5 : Nat} (e0 : K = F + 1) (e1 : F = F1 + 1) (e2 : F1 = F2 + 1) (e3 : F2 = F3 + 1) (e4 : F3 = F4 + 1) (e5 : F4 = F5 + 1) (hF : 100 < F5) :
  Ok (fun v m' n' => v = vs' (encG e) ∧ (∀ j, j < n → m'.get j = m.get j) ∧ n ≤ n' ∧ n' ≤ n + 31) (callK E K (.f 28) [evV e nv vv] m n) := by
 have hb := body_len hg
 have hsl := sum_len (bodyG e)
 have e33 := tSumS_at (l := bodyG e) (by omega)
 have a1 := addOk (a := Lib.decDigits (sumS (bodyG e))) (b := [32]) (by simp; omega)
 have a2 := addOk2 (a := Lib.decDigits (sumS (bodyG e))) (b := bodyG e) (by omega)
 refine T.h28.run e0 (show 1 ≤ 11 by omega) ?_
 unfold evV
 conv => arg 2; whnf
 refine Ok.putM (by omega) fun m1 hm1 => ?_
 have g1 : m1.get n = some (.cells [vi e.num, vs' e.kind, nv, vv, vs' e.text] 25) := by (rw [hm1, if_pos rfl]) <;> rfl
 have hk1 : ∀ j, j < n → m1.get j = m.get j := fun j hj => by rw [hm1, if_neg (by omega)]
 conv => arg 2; whnf
 refine Ok.ldA g1 (by omega) cE5 ?_
 conv => arg 2; whnf
 refine Ok.sub (g122 T (e := e) (nv := nv) (vv := vv) (by omega) (hs.keep hlow hk1) (fun i o l c hq => by have := hlow i o l c hq; omega) hv hg e1 e2 e3 e4 e5 (by omega)) fun v m2 n2 hq => ?_
 obtain ⟨rfl, hm2, hn2⟩ := hq
 conv => arg 2; whnf
 repeat ((first | refine Ok.T ?_ | refine Ok.N T.h33 e1 e33 ?_); conv => arg 2; whnf)
 refine Ok.done ⟨?_, fun j hj => by rw [hm2 j (by omega), hk1 j hj], by omega⟩
 exact congrArg vs' (enc_eq e)
theorem g6E (T : Tab E) {e : EvG} {nv vv : V} {m : Mem} {n : Nat} (hn : n ≤ 80000) (hs : NamesV nv e.names m) (hlow : LowV nv n) (hv : LenV vv e.vals) (hh : Heard e) {K F F1 F2 F3 F4 F5 F6 : Nat} (e0 : K = F + 1) (e1 : F = F1 + 1) (e2 : F1 = F2 + 1) (e3 : F2 = F3 + 1) (e4 : F3 = F4 + 1) (e5 : F4 = F5 + 1) (e6 : F5 = F6 + 1) (hF : 100 < F6) :
  Ok (fun v m' n' => v = .tup [vs' (if chkG e = 0 then encG e else []), vi (chkG e)] ∧ (∀ j, j < n → m'.get j = m.get j) ∧ n ≤ n' ∧ n' ≤ n + 40) (callK E K (.f 6) [evV e nv vv] m n) := by
 have hgn := hh.hn
 refine T.h6.run e0 (show 1 ≤ 12 by omega) ?_
 unfold evV
 conv => arg 2; whnf
 refine Ok.putM (by omega) fun m1 hm1 => ?_
 have g1 : m1.get n = some (.cells [vi e.num, vs' e.kind, nv, vv, vs' e.text] 25) := by (rw [hm1, if_pos rfl]) <;> rfl
 have hk1 : ∀ j, j < n → m1.get j = m.get j := fun j hj => by rw [hm1, if_neg (by omega)]
 have hlow1 : LowV nv (n + 1) := fun i o l c hq => by have := hlow i o l c hq; omega
 conv => arg 2; whnf
 refine Ok.ldA g1 (by omega) cE5 ?_
 conv => arg 2; whnf
 refine Ok.sub (g56 T.h27 T.h65 T.h30 T.h29 T.h70 T.h139 T.h71 T.h47 (e := e) (nv := nv) (vv := vv) (by omega) (hs.keep hlow hk1) hlow1 hv hh.few e1 e2 e3 e4 e5 (by omega)) fun v m2 n2 hq => ?_
 obtain ⟨rfl, hm2, rfl⟩ := hq
 have g1 : m2.get n = some (.cells [vi e.num, vs' e.kind, nv, vv, vs' e.text] 25) := by rw [hm2 n (by omega)]; exact g1
 by_cases hc : chkG e = 0
 ·have q1 : (nB (eqIK (chkG e : Int) 0)) = false := neI_f (by omega)
  conv => arg 2; whnf
  repeat ((first | refine Ok.F ?_ | refine Ok.ldA g1 (by omega) (by with_reducible first | exact cE5) ?_); conv => arg 2; whnf)
  refine Ok.sub (g51 T (e := e) (nv := nv) (vv := vv) (by omega) (hs.keep hlow fun j hj => by rw [hm2 j (by omega), hk1 j hj]) (fun i o l c hq => by have := hlow i o l c hq; omega) hv (hh.good hc) e1 e2 e3 e4 e5 e6 hF) fun v m3 n3 hq => ?_
  obtain ⟨rfl, hm3, hn3⟩ := hq
  conv => arg 2; whnf
  refine Ok.done ⟨?_, fun j hj => by rw [hm3 j (by omega), hm2 j (by omega), hk1 j hj], by omega⟩
  rw [if_pos hc, hc]; rfl
 ·have q1 : (nB (eqIK (chkG e : Int) 0)) = true := neI_t (by omega)
  conv => arg 2; whnf
  repeat ((first | refine Ok.T ?_); conv => arg 2; whnf)
  refine Ok.done ⟨?_, fun j hj => by rw [hm2 j (by omega), hk1 j hj], by omega⟩
  rw [if_neg hc]; rfl
end
end Go.Fm
set_option maxHeartbeats 8000000
namespace Go.Fm
theorem NamesV.at {nv : V} {names : List Bs} {m : Mem} (h : NamesV nv names m) {i : Nat} {c : Bs} (hi : names[i]? = some c) : ∃ id off cap, nv = .sl id off names.length cap 1 ∧ StrsAt id off names m := by
 rcases h with ⟨_, rfl⟩ | ⟨id, off, cap, h1, h2⟩
 ·simp at hi
 ·exact ⟨id, off, cap, h1, h2.resolve_left (by rintro rfl; simp at hi)⟩
section
variable {E : Env'} {Q : V → Mem → Nat → Prop}
attribute [local irreducible] Ok callK loopK lenL nthL takeL dropL eqBs getM putM appVC evM cutK wrapK elsC
theorem body_loop {F : Nat} {call : CE} {kN kR : KKN} {kE : Nat → KKN} {fi : List FI} {e : EvG} {nv vv : V} {p n : Nat} {m : Mem} (hp : p ≤ 262143) (g1 : m.get p = some (.cells [vi e.num, vs' e.kind, nv, vv, vs' e.text] 25)) (hs : NamesV nv e.names m) (hn : e.names.length ≤ 1000) :
  ∀ (r a : List Bs) (x : Bs) (K : Nat) (t : Tr 3 V), a ++ r = e.names → r.length < K → x.length + (joinT r).length ≤ 100000 → t.get 1 = some (.ptr p 0) → t.get 3 = some (vs' x) → t.get 4 = some (vi a.length) →
  (∀ t', t'.get 1 = some (.ptr p 0) → t'.get 3 = some (vs' (x ++ joinT r)) → Ok Q (kE 0 t' m n fi)) → Ok Q (loopK (comp E be37).run F call kN kE kR K t m n fi) := by
 have hl := hs.len
 intro r
 induction r with
 | nil =>
  intro a x K t ha hK hx t1 t3 t4 H
  obtain ⟨K, rfl⟩ : ∃ k', K = k' + 1 := ⟨K - 1, by omega⟩
  rw [loopK_succ]
  have q1 : ltIK (a.length : Int) (Int.ofNat e.names.length) = false := ltIK_ff (by rw [← ha]; simp)
  obtain ⟨f_t, rfl⟩ := mkT_form [(1, _), (3, _), (4, _)] ⟨t1, t3, t4, trivial⟩
  conv => arg 2; whnf
  repeat ((first | refine Ok.ff (by with_reducible first | exact q1) ?_ | refine Ok.ld1 g1 (by omega) (by with_reducible first | exact cE2) ?_ | refine Ok.lenV hl rfl (fun _ _ _ _ => rfl) rfl ?_); conv => arg 2; whnf)
  refine H _ ?_ ?_
  ·rfl
  ·rw [show x ++ joinT [] = x by simp [joinT]]; rfl
 | cons c r ih =>
  intro a x K t ha hK hx t1 t3 t4 H
  obtain ⟨K, rfl⟩ : ∃ k', K = k' + 1 := ⟨K - 1, by omega⟩
  rw [loopK_succ]
  have hlen : a.length < e.names.length := by rw [← ha]; simp
  have q1 : ltIK (a.length : Int) (Int.ofNat e.names.length) = true := ltIK_tt (by show (a.length : Int) < (e.names.length : Int); omega)
  have q2 : Nat.blt a.length e.names.length = true := Nat.ble_eq_true_of_le hlen
  have hi : e.names[a.length]? = some c := by rw [← ha]; simp
  obtain ⟨id, off, cap, hnv, hs'⟩ := hs.at hi
  subst hnv
  have ho : Nat.add off (Nat.mul a.length 1) = off + a.length := by show off + a.length * 1 = _; omega
  simp only [joinT, List.length_cons, List.length_append] at hx hK
  have a1 := addOk (a := x) (b := [32]) (by simp; omega)
  have a2 := addOk2 (a := x) (b := c) (by omega)
  obtain ⟨f_t, rfl⟩ := mkT_form [(1, _), (3, _), (4, _)] ⟨t1, t3, t4, trivial⟩
  conv => arg 2; whnf
  repeat ((first | refine Ok.tt (by with_reducible first | exact q1 | exact q2 | exact a1 | exact a2) ?_ | refine Ok.ld1 g1 (by omega) (by with_reducible first | exact cE2) ?_ | refine Ok.ldS hs' hi ho ?_); conv => arg 2; whnf)
  refine ih (a ++ [c]) (x ++ [32] ++ c) K _ (by rw [← ha]; simp) (by omega) (by simp; omega) ?_ ?_ ?_ ?_
  ·rfl
  ·rfl
  ·exact res_int ((wrap1 (by omega)).trans (by simp))
  ·intro t' h1 h3
   exact H t' h1 (by rw [h3]; simp [joinT])
theorem g37 (T : Tab E) {e : EvG} {nv vv : V} {m : Mem} {n : Nat} (hn : n ≤ 100000) (hs : NamesV nv e.names m) (hlow : LowV nv n) (hv : LenV vv e.vals) (hg : Good e) {K F F1 : Nat} (e0 : K = F + 1) (e1 : F = F1 + 1) (hF : 100 < F) :
  Ok (fun v m' n' => v = vs' (bodyG e) ∧ (∀ j, j < n → m'.get j = m.get j) ∧ n' = n + 1) (callK E K (.f 37) [evV e nv vv] m n) := by
 obtain ⟨k, tx, hform⟩ := hg.form
 have hg1 := hg.h1
 have hg2 := hg.h2
 have hgn := hg.hn
 have hkl := hg.hk
 have htl := hg.ht
 obtain ⟨N, hN⟩ : ∃ N : Nat, e.num = (N : Int) := ⟨e.num.toNat, by omega⟩
 have e63 : tFromInt [vi e.num] = some (vs' (Lib.decDigits N)) := by rw [hN]; exact tFromInt_at (by omega)
 have e35 := tKSize_at hform (by omega)
 have e24 := tEsc_at (l := e.text) (by omega)
 have hdl : (Lib.decDigits N).length ≤ 4 := dec_len (by omega) (by omega)
 have hsn := sum_le (c := 60) e.names hg.hx
 have hjl := joinT_len e.names
 have hel := escS_len e.text
 have a1 := addOk (a := Lib.decDigits N) (b := [32]) (by simp; omega)
 have a2 := addOk2 (a := Lib.decDigits N) (b := e.kind) (by omega)
 have hwd : wordsG e = Lib.decDigits N :: e.kind :: (e.names ++ if tx = true then [escS e.text] else []) := by
  unfold wordsG; rw [hform, hN]; cases tx <;> rfl
 refine T.h37.run e0 (show 1 ≤ 45 by omega) ?_
 unfold evV
 conv => arg 2; whnf
 refine Ok.putM (by omega) fun m1 hm1 => ?_
 have g1 : m1.get n = some (.cells [vi e.num, vs' e.kind, nv, vv, vs' e.text] 25) := by (rw [hm1, if_pos rfl]) <;> rfl
 have hk1 : ∀ j, j < n → m1.get j = m.get j := fun j hj => by rw [hm1, if_neg (by omega)]
 conv => arg 2; whnf
 repeat ((first | refine Ok.ld1 g1 (by omega) (by with_reducible first | exact cE0 | exact cE1 | exact cE2 | exact cE3 | exact cE4) ?_ | refine Ok.opt (callK_natE T.h63 e1 e63 _ _) ?_); conv => arg 2; whnf)
 refine Ok.tt ?_ ?_
 ·repeat (first | with_reducible exact recs_nil | refine recs1 rfl rfl ?_ ?_)
  all_goals first | exact recs_nil | ((conv => arg 2; whnf); (first | refine Ok.ld1 g1 (by omega) (by with_reducible first | exact cE0 | exact cE1 | exact cE2 | exact cE3 | exact cE4) ?_); refine Ok.done ?_; (first | rfl | (show V.same _ _ = true; simp [V.same, sameL, same1, vs', vi, nvOf])))
 conv => arg 2; whnf
 repeat ((first | refine Ok.tt (by with_reducible first | exact a1 | exact a2) ?_); conv => arg 2; whnf)
 refine body_loop (E := E) (by omega) g1 (hs.keep hlow hk1) (by omega) e.names [] (Lib.decDigits N ++ [32] ++ e.kind) F _ rfl (by omega) (by simp; omega) ?_ ?_ ?_ fun t' h1' h3' => ?_
 ·rfl
 ·rfl
 ·rfl
 obtain ⟨f_t, rfl⟩ := mkT_form [(1, _), (3, _)] ⟨h1', h3', trivial⟩
 cases tx with
 | true =>
  have b1 := addOk (a := Lib.decDigits N ++ [32] ++ e.kind ++ joinT e.names) (b := [32]) (by simp; omega)
  have b2 := addOk2 (a := Lib.decDigits N ++ [32] ++ e.kind ++ joinT e.names) (b := escS e.text) (by simp; omega)
  conv => arg 2; whnf
  repeat ((first | refine Ok.tt (by with_reducible first | exact b1 | exact b2) ?_ | refine Ok.ld1 g1 (by omega) (by with_reducible first | exact cE0 | exact cE1 | exact cE2 | exact cE3 | exact cE4) ?_ | refine Ok.opt (callK_natE T.h35 e1 e35 _ _) ?_ | refine Ok.opt (callK_natE T.h24 e1 e24 _ _) ?_); conv => arg 2; whnf)
  refine Ok.done ⟨?_, hk1, rfl⟩
  unfold bodyG
  rw [hwd, joinS_T]
  show vs' (((Lib.decDigits N ++ [32] ++ e.kind ++ joinT e.names) ++ [32]) ++ escS e.text) = _
  simp [joinT, joinT_app]
 | false =>
  conv => arg 2; whnf
  repeat ((first | refine Ok.ld1 g1 (by omega) (by with_reducible first | exact cE0 | exact cE1 | exact cE2 | exact cE3 | exact cE4) ?_ | refine Ok.opt (callK_natE T.h35 e1 e35 _ _) ?_); conv => arg 2; whnf)
  refine Ok.done ⟨?_, hk1, rfl⟩
  unfold bodyG
  rw [hwd, joinS_T]
  show vs' (Lib.decDigits N ++ [32] ++ e.kind ++ joinT e.names) = _
  simp [joinT, joinT_app]
theorem g12 (T : Tab E) {e : EvG} {nv vv : V} {m : Mem} {n : Nat} (hn : n ≤ 90000) (hs : NamesV nv e.names m) (hlow : LowV nv n) (hv : LenV vv e.vals) (hg : Good e) {K F F1 F2 : Nat} (e0 : K = F + 1) (e1 : F = F1 + 1) (e2 : F1 = F2 + 1) (hF : 100 < F1) :
  Ok (fun v m' n' => v = vs' (encG e) ∧ (∀ j, j < n → m'.get j = m.get j) ∧ n' = n + 2) (callK E K (.f 12) [evV e nv vv] m n) := by
 have hb := body_len hg
 have hsl := sum_len (bodyG e)
 have e38 := tSumS_at (l := bodyG e) (by omega)
 have a1 := addOk (a := Lib.decDigits (sumS (bodyG e))) (b := [32]) (by simp; omega)
 have a2 := addOk2 (a := Lib.decDigits (sumS (bodyG e))) (b := bodyG e) (by omega)
 refine T.h12.run e0 (show 1 ≤ 11 by omega) ?_
 unfold evV
 conv => arg 2; whnf
 refine Ok.putM (by omega) fun m1 hm1 => ?_
 have g1 : m1.get n = some (.cells [vi e.num, vs' e.kind, nv, vv, vs' e.text] 25) := by (rw [hm1, if_pos rfl]) <;> rfl
 have hk1 : ∀ j, j < n → m1.get j = m.get j := fun j hj => by rw [hm1, if_neg (by omega)]
 conv => arg 2; whnf
 refine Ok.ldA g1 (by omega) cE5 ?_
 conv => arg 2; whnf
 refine Ok.sub (g37 T (e := e) (nv := nv) (vv := vv) (by omega) (hs.keep hlow hk1) (fun i o l c hq => by have := hlow i o l c hq; omega) hv hg e1 e2 hF) fun v m2 n2 hq => ?_
 obtain ⟨rfl, hm2, rfl⟩ := hq
 conv => arg 2; whnf
 repeat ((first | refine Ok.tt (by with_reducible first | exact a1 | exact a2) ?_ | refine Ok.opt (callK_natE T.h38 e1 e38 _ _) ?_); conv => arg 2; whnf)
 refine Ok.done ⟨?_, fun j hj => by rw [hm2 j (by omega), hk1 j hj], rfl⟩
 exact congrArg vs' (enc_eq e)
end
end Go.Fm
set_option maxHeartbeats 8000000
namespace Go.Fm
section
variable {E : Env'} {Q : V → Mem → Nat → Prop}
attribute [local irreducible] Ok callK loopK lenL nthL takeL dropL eqBs getM putM appVC evM cutK elsC
theorem heard_loop {F : Nat} {call : CE} {kN kR : KKN} {kE : Nat → KKN} {fi : List FI} {names : List Bs} {nv : V} {n : Nat} {m : Mem} (hs : NamesV nv names m) (hn : names.length ≤ 4) :
  ∀ (r a : List Bs) (K : Nat) (t : Tr 3 V), a ++ r = names → r.length < K → t.get 11 = some (vi 1) → t.get 12 = some (vi 0) → t.get 39 = some nv → t.get 40 = some (vi names.length) → t.get 41 = some (vi a.length) →
  (∀ t', t'.get 2 = some (.bool false) → Ok Q (kR t' m n fi)) → (∀ t', (∀ x ∈ r, x.length ≤ 60) → t'.get 11 = some (vi 1) → t'.get 12 = some (vi 0) → Ok Q (kE 2 t' m n fi)) → Ok Q (loopK (comp E be4).run F call kN kE kR K t m n fi) := by
 intro r
 induction r with
 | nil =>
  intro a K t ha hK t11 t12 t39 t40 t41 H1 H2
  obtain ⟨K, rfl⟩ : ∃ k', K = k' + 1 := ⟨K - 1, by omega⟩
  rw [loopK_succ]
  have q1 : ltIK (a.length : Int) (names.length : Int) = false := ltIK_ff (by rw [← ha]; simp)
  obtain ⟨f_t, rfl⟩ := mkT_form [(11, _), (12, _), (39, _), (40, _), (41, _)] ⟨t11, t12, t39, t40, t41, trivial⟩
  conv => arg 2; whnf
  repeat ((first | refine Ok.ff (by with_reducible first | exact q1) ?_); conv => arg 2; whnf)
  refine H2 _ (by simp) ?_ ?_
  ·rfl
  ·rfl
 | cons c r ih =>
  intro a K t ha hK t11 t12 t39 t40 t41 H1 H2
  obtain ⟨K, rfl⟩ : ∃ k', K = k' + 1 := ⟨K - 1, by omega⟩
  rw [loopK_succ]
  have hlen : a.length < names.length := by rw [← ha]; simp
  have q1 : ltIK (a.length : Int) (names.length : Int) = true := ltIK_tt (by omega)
  have q2 : Nat.blt a.length names.length = true := Nat.ble_eq_true_of_le hlen
  have hi : names[a.length]? = some c := by rw [← ha]; simp
  obtain ⟨id, off, cap, hnv, hs'⟩ := hs.at hi
  subst hnv
  have ho : Nat.add off (Nat.mul a.length 1) = off + a.length := by show off + a.length * 1 = _; omega
  by_cases hc : 60 < c.length
  ·have q3 : ltIK 60 (Int.ofNat (lenL c)) = true := by rw [lenL_eq]; exact ltIK_tt (by show (60 : Int) < (c.length : Int); omega)
   obtain ⟨f_t, rfl⟩ := mkT_form [(11, _), (12, _), (39, _), (40, _), (41, _)] ⟨t11, t12, t39, t40, t41, trivial⟩
   conv => arg 2; whnf
   repeat ((first | refine Ok.tt (by with_reducible first | exact q1 | exact q2 | exact q3) ?_ | refine Ok.ldS hs' hi ho ?_); conv => arg 2; whnf)
   refine H1 _ ?_
   rfl
  ·have q3 : ltIK 60 (Int.ofNat (lenL c)) = false := by rw [lenL_eq]; exact ltIK_ff (by show (c.length : Int) ≤ 60; omega)
   obtain ⟨f_t, rfl⟩ := mkT_form [(11, _), (12, _), (39, _), (40, _), (41, _)] ⟨t11, t12, t39, t40, t41, trivial⟩
   conv => arg 2; whnf
   repeat ((first | refine Ok.tt (by with_reducible first | exact q1 | exact q2) ?_ | refine Ok.ff (by with_reducible first | exact q3) ?_ | refine Ok.ldS hs' hi ho ?_); conv => arg 2; whnf)
   refine ih (a ++ [c]) K _ (by rw [← ha]; simp) (by simp at hK; omega) ?_ ?_ ?_ ?_ ?_ H1 ?_
   ·rfl
   ·rfl
   ·rfl
   ·rfl
   ·exact res_int ((wrap1 (by omega)).trans (by simp))
   ·intro t' hx
    exact H2 t' fun x hx' => by
     rcases List.mem_cons.1 hx' with rfl | h
     ·omega
     ·exact hx x h
theorem g4 (h : Has E 4 fe4) {e : EvG} {nv vv : V} {m : Mem} {n id : Nat} (hn : n ≤ 200000) (hg : m.get id = some (.cells [vi e.num, vs' e.kind, nv, vv, vs' e.text] 25)) (hid : id ≤ 262143) (hs : NamesV nv e.names m) (hlow : LowV nv n) (hv : LenV vv e.vals) {K F F1 F2 : Nat} (e0 : K = F + 1) (e1 : F = F1 + 1) (e2 : F1 = F2 + 1) (hF : 10 < F2) :
  Ok (fun v m' n' => (∃ b : Bool, v = .bool b ∧ (b = true → Heard e)) ∧ (∀ j, j < n → m'.get j = m.get j) ∧ n' = n + 1) (callK E K (.f 4) [.sl id 0 1 (some 1) 5] m n) := by
 have hl := hs.len
 have ha := one_ev (e := e) hl hv
 have c5 : cutK (Nat.add 0 (Nat.mul 0 5)) 5 [vi e.num, vs' e.kind, nv, vv, vs' e.text] = some [vi e.num, vs' e.kind, nv, vv, vs' e.text] := by rw [cutK_eq]; rfl
 refine h.run e0 (show 1 ≤ 50 by omega) ?_
 conv => arg 2; whnf
 refine Ok.loop F1 e1 ?_
 conv => arg 2; whnf
 repeat ((first | refine Ok.ldA hg (by omega) (by with_reducible first | exact c5) ?_); conv => arg 2; whnf)
 refine Ok.putM (by omega) fun m1 hm1 => ?_
 have g1 : m1.get n = some (.cells [vi 0, vs' [], .nils, .nils, vs' []] 25) := by (rw [hm1, if_pos rfl]) <;> rfl
 conv => arg 2; whnf
 refine Ok.getM g1 (by omega) ?_
 conv => arg 2; whnf
 refine Ok.tt ha ?_
 conv => arg 2; whnf
 refine Ok.putM (by omega) fun m2 hm2 => ?_
 have g2 : m2.get n = some (.cells [vi e.num, vs' e.kind, nv, vv, vs' e.text] 25) := by (rw [hm2, if_pos rfl]) <;> rfl
 have hk2 : ∀ j, j < n → m2.get j = m.get j := fun j hj => by rw [hm2, if_neg (by omega), hm1, if_neg (by omega)]
 conv => arg 2; whnf
 by_cases b1 : 60 < e.kind.length
 ·have q1 : ltIK 60 (Int.ofNat (lenL e.kind)) = true := by rw [lenL_eq]; exact ltIK_tt (by show (60 : Int) < (e.kind.length : Int); omega)
  repeat ((first | refine Ok.tt (by with_reducible first | exact q1) ?_ | refine Ok.ld1 g2 (by omega) (by with_reducible first | exact cE1 | exact cE2 | exact cE3 | exact cE4) ?_); conv => arg 2; whnf)
  exact Ok.done ⟨⟨false, rfl, fun h => by cases h⟩, hk2, rfl⟩
 have q1 : ltIK 60 (Int.ofNat (lenL e.kind)) = false := by rw [lenL_eq]; exact ltIK_ff (by show (e.kind.length : Int) ≤ 60; omega)
 by_cases b2 : 4 < e.names.length
 ·have q2 : ltIK 4 (Int.ofNat e.names.length) = true := ltIK_tt (by show (4 : Int) < (e.names.length : Int); omega)
  repeat ((first | refine Ok.tt (by with_reducible first | exact q2) ?_ | refine Ok.ff (by with_reducible first | exact q1) ?_ | refine Ok.ld1 g2 (by omega) (by with_reducible first | exact cE1 | exact cE2 | exact cE3 | exact cE4) ?_ | refine Ok.lenV hl rfl (fun _ _ _ _ => rfl) rfl ?_); conv => arg 2; whnf)
  exact Ok.done ⟨⟨false, rfl, fun h => by cases h⟩, hk2, rfl⟩
 have q2 : ltIK 4 (Int.ofNat e.names.length) = false := ltIK_ff (by show (e.names.length : Int) ≤ 4; omega)
 by_cases b3 : 4 < e.vals
 ·have q3 : ltIK 4 (Int.ofNat e.vals) = true := ltIK_tt (by show (4 : Int) < (e.vals : Int); omega)
  repeat ((first | refine Ok.tt (by with_reducible first | exact q3) ?_ | refine Ok.ff (by with_reducible first | exact q1 | exact q2) ?_ | refine Ok.ld1 g2 (by omega) (by with_reducible first | exact cE1 | exact cE2 | exact cE3 | exact cE4) ?_ | refine Ok.lenV hl rfl (fun _ _ _ _ => rfl) rfl ?_ | refine Ok.lenV hv rfl (fun _ _ _ _ => rfl) rfl ?_); conv => arg 2; whnf)
  exact Ok.done ⟨⟨false, rfl, fun h => by cases h⟩, hk2, rfl⟩
 have q3 : ltIK 4 (Int.ofNat e.vals) = false := ltIK_ff (by show (e.vals : Int) ≤ 4; omega)
 by_cases b4 : 700 < e.text.length
 ·have q4 : ltIK 700 (Int.ofNat (lenL e.text)) = true := by rw [lenL_eq]; exact ltIK_tt (by show (700 : Int) < (e.text.length : Int); omega)
  repeat ((first | refine Ok.tt (by with_reducible first | exact q4) ?_ | refine Ok.ff (by with_reducible first | exact q1 | exact q2 | exact q3) ?_ | refine Ok.ld1 g2 (by omega) (by with_reducible first | exact cE1 | exact cE2 | exact cE3 | exact cE4) ?_ | refine Ok.lenV hl rfl (fun _ _ _ _ => rfl) rfl ?_ | refine Ok.lenV hv rfl (fun _ _ _ _ => rfl) rfl ?_); conv => arg 2; whnf)
  exact Ok.done ⟨⟨false, rfl, fun h => by cases h⟩, hk2, rfl⟩
 have q4 : ltIK 700 (Int.ofNat (lenL e.text)) = false := by rw [lenL_eq]; exact ltIK_ff (by show (e.text.length : Int) ≤ 700; omega)
 repeat ((first | refine Ok.ff (by with_reducible first | exact q1 | exact q2 | exact q3 | exact q4) ?_ | refine Ok.ld1 g2 (by omega) (by with_reducible first | exact cE1 | exact cE2 | exact cE3 | exact cE4) ?_ | refine Ok.lenV hl rfl (fun _ _ _ _ => rfl) rfl ?_ | refine Ok.lenV hv rfl (fun _ _ _ _ => rfl) rfl ?_); conv => arg 2; whnf)
 refine heard_loop (E := E) (hs.keep hlow hk2) (by omega) e.names [] F _ rfl (by omega) ?_ ?_ ?_ ?_ ?_ ?_ ?_
 ·rfl
 ·rfl
 ·rfl
 ·rfl
 ·rfl
 ·intro t' t'2
  obtain ⟨f_tp, rfl⟩ := mkT_form [(2, _)] ⟨t'2, trivial⟩
  conv => arg 2; whnf
  exact Ok.done ⟨⟨false, rfl, fun h => by cases h⟩, hk2, rfl⟩
 ·intro t' hx t'11 t'12
  obtain ⟨f_tp, rfl⟩ := mkT_form [(11, _), (12, _)] ⟨t'11, t'12, trivial⟩
  conv => arg 2; whnf
  refine Ok.loop F2 e2 ?_
  conv => arg 2; whnf
  exact Ok.done ⟨⟨true, rfl, fun _ => ⟨by omega, by omega, hx, by omega, by omega⟩⟩, hk2, rfl⟩
def appE (er : Nat) (e : EvG) (k : Nat) : Int := firstN [(er : Int), (chkG e : Int), if 1000 ≤ k then 5 else 0]
def appV (log : Bs) (er : Nat) (e : EvG) (k : Nat) : V := .tup [vs' (if appE er e k = 0 then log ++ encG e ++ [10] else []), vi (appE er e k)]
theorem app_good {er : Nat} {e : EvG} {k : Nat} (h : appE er e k = 0) : chkG e = 0 := by
 unfold appE firstN at h
 split at h
 ·unfold firstN at h
  split at h
  ·omega
  ·omega
 ·omega
theorem g7A (T : Tab E) {e : EvG} {nv vv : V} {m : Mem} {n : Nat} (hn : n ≤ 40000) (hs : NamesV nv e.names m) (hlow : LowV nv n) (hv : LenV vv e.vals) (hh : Heard e) {log : Bs} (hlog : log.length ≤ 1200) {es : List Ev1} {p er : Nat} (hR : recoverS Lib.decDigits (log.length + 1) [] 0 log = (es, p, er))
  {K F F1 F2 F3 F4 F5 F6 : Nat} (e0 : K = F + 1) (e1 : F = F1 + 1) (e2 : F1 = F2 + 1) (e3 : F2 = F3 + 1) (e4 : F3 = F4 + 1) (e5 : F4 = F5 + 1) (e6 : F5 = F6 + 1) (hF : 2000 < F6) :
  Ok (fun v m' n' => v = appV log er e es.length ∧ (∀ j, j < n → m'.get j = m.get j) ∧ n ≤ n' ∧ n' ≤ n + 14000) (callK E K (.f 7) [vs' log, evV e nv vv] m n) := by
 have hgn := hh.hn
 obtain ⟨w, hw⟩ : ∃ w : Int, w = (if 1000 ≤ es.length then 5 else 0) := ⟨_, rfl⟩
 have e22 : tWhen [.bool (leIK 1000 (Int.ofNat es.length)), vi 5] = some (vi w) := by
  rw [hw]
  by_cases c : 1000 ≤ es.length
  ·rw [if_pos c]; exact tWhen_t (leIK_tt (by show (1000 : Int) ≤ (es.length : Int); omega)) 5
  ·rw [if_neg c]; exact tWhen_f (leIK_ff (by show (es.length : Int) < 1000; omega)) 5
 have hE : firstN [(er : Int), (chkG e : Int), w] = appE er e es.length := by rw [hw]; rfl
 refine T.h7.run e0 (show 2 ≤ 37 by omega) ?_
 unfold evV
 conv => arg 2; whnf
 refine Ok.putM (by omega) fun m1 hm1 => ?_
 have g1 : m1.get n = some (.cells [vi e.num, vs' e.kind, nv, vv, vs' e.text] 25) := by (rw [hm1, if_pos rfl]) <;> rfl
 have hk1 : ∀ j, j < n → m1.get j = m.get j := fun j hj => by rw [hm1, if_neg (by omega)]
 conv => arg 2; whnf
 refine Ok.sub (g5 T.h25 T.h31 T.n8 T.h8 T.h30 T.h29 e1 e2 (by omega) (by omega) (by omega) (m := m1) (n := n + 1) (by omega) hR) fun v m2 n2 hq => ?_
 obtain ⟨s, hs2, hn2, hm2, rfl⟩ := hq
 have hlen := hs2.len
 have g1 : m2.get n = some (.cells [vi e.num, vs' e.kind, nv, vv, vs' e.text] 25) := by rw [hm2 n (by omega)]; exact g1
 have hk2 : ∀ j, j < n → m2.get j = m.get j := fun j hj => by rw [hm2 j (by omega), hk1 j hj]
 conv => arg 2; whnf
 refine Ok.ldA g1 (by omega) cE5 ?_
 conv => arg 2; whnf
 have hg2 : NamesV nv e.names m2 := hs.keep hlow hk2
 refine Ok.sub (g56 T.h27 T.h65 T.h30 T.h29 T.h70 T.h139 T.h71 T.h47 (e := e) (nv := nv) (vv := vv) (by omega) hg2 (fun i o l c hq => by have := hlow i o l c hq; omega) hv hh.few e1 e2 e3 e4 e5 (by omega)) fun v m3 n3 hq => ?_
 obtain ⟨rfl, hm3, rfl⟩ := hq
 conv => arg 2; whnf
 repeat ((first | refine Ok.lenV hlen rfl (fun _ _ _ _ => rfl) rfl ?_ | refine Ok.opt (callK_natE T.h30 e1 e22 _ _) ?_); conv => arg 2; whnf)
 refine Ok.putM (by omega) fun m4 hm4 => ?_
 have g4 : m4.get (n2 + 3) = some (.cells [vi (er : Nat), vi (chkG e), vi w] 29) := by (rw [hm4, if_pos rfl]) <;> rfl
 have hk4 : ∀ j, j < n2 → m4.get j = m2.get j := fun j hj => by rw [hm4, if_neg (by omega), hm3 j hj]
 have g1 : m4.get n = some (.cells [vi e.num, vs' e.kind, nv, vv, vs' e.text] 25) := by rw [hk4 n (by omega)]; exact g1
 conv => arg 2; whnf
 refine Ok.sub (g21three T.h29 g4 (by omega) e1 (by omega)) fun v m5 n5 hq => ?_
 obtain ⟨hv5, rfl, rfl⟩ := hq
 rw [hE] at hv5
 subst hv5
 unfold appV
 by_cases hc : appE er e es.length = 0
 ·have q1 : (nB (eqIK (appE er e es.length) 0)) = false := neI_f hc
  have hgd := hh.good (app_good hc)
  have hel := enc_len hgd
  have a1 := addOk (a := log) (b := encG e) (by omega)
  have a2 := addOk (a := List.append log (encG e)) (b := [10]) (by have : (List.append log (encG e)).length = log.length + (encG e).length := (by show (log ++ encG e).length = _; simp); simp only [this]; simp; omega)
  have q2 : ltIK 1000000 (Int.ofNat (lenL (List.append (List.append log (encG e)) [10]))) = false := by
   rw [lenL_eq]
   have : (List.append (List.append log (encG e)) [10]).length = log.length + (encG e).length + 1 := by show ((log ++ encG e) ++ [10]).length = _; simp; omega
   exact ltIK_ff (by rw [this]; show ((log.length + (encG e).length + 1 : Nat) : Int) ≤ 1000000; omega)
  conv => arg 2; whnf
  repeat ((first | refine Ok.ff (by with_reducible first | exact q1) ?_ | refine Ok.ldA g1 (by omega) (by with_reducible first | exact cE5) ?_); conv => arg 2; whnf)
  refine Ok.sub (g51 T (e := e) (nv := nv) (vv := vv) (by omega) (hs.keep hlow fun j hj => by rw [hk4 j (by omega), hk2 j hj]) (fun i o l c hq => by have := hlow i o l c hq; omega) hv hgd e1 e2 e3 e4 e5 e6 (by omega)) fun v m6 n6 hq => ?_
  obtain ⟨rfl, hm6, hn6⟩ := hq
  conv => arg 2; whnf
  repeat ((first | refine Ok.tt (by with_reducible first | exact a1 | exact a2) ?_ | refine Ok.ff (by with_reducible first | exact q2) ?_); conv => arg 2; whnf)
  refine Ok.done ⟨?_, fun j hj => by rw [hm6 j (by omega), hk4 j (by omega), hk2 j hj], by omega⟩
  rw [if_pos hc, hc]; rfl
 ·have q1 : (nB (eqIK (appE er e es.length) 0)) = true := neI_t hc
  conv => arg 2; whnf
  repeat ((first | refine Ok.tt (by with_reducible first | exact q1) ?_); conv => arg 2; whnf)
  refine Ok.done ⟨?_, fun j hj => by rw [hk4 j (by omega), hk2 j hj], by omega⟩
  rw [if_neg hc]; rfl
end
end Go.Fm
set_option maxHeartbeats 8000000
namespace Go.Fm
def DecRes (s : Bs) (e : Ev1) (err : Int) : Prop := (err = 0 ∧ decodeS Lib.decDigits s = .inl e) ∨ ∃ b : Nat, err = (b : Int) ∧ b ≠ 0 ∧ decodeS Lib.decDigits s = .inr b ∧ e = ⟨0, ⟨[], [], []⟩⟩
theorem DecRes.eq {s : Bs} {e e' : Ev1} {err err' : Int} (h : DecRes s e err) (h' : DecRes s e' err') : e = e' ∧ err = err' := by
 rcases h with ⟨rfl, h1⟩ | ⟨b, rfl, _, h1, rfl⟩ <;> rcases h' with ⟨rfl, h2⟩ | ⟨b', rfl, _, h2, rfl⟩ <;> rw [h1] at h2 <;> cases h2 <;> exact ⟨rfl, rfl⟩
theorem DecRes.names {s : Bs} {e : Ev1} {err : Int} (h : DecRes s e err) : e.ev.names.length ≤ 1000 := by
 rcases h with ⟨_, h1⟩ | ⟨b, _, _, _, rfl⟩
 ·have := decodeS_names h1; omega
 ·simp
theorem cE5d {e : Ev1} {nv : V} : cutK 0 5 [vi e.num, vs' e.ev.kind, nv, .nils, vs' e.ev.text] = some [vi e.num, vs' e.ev.kind, nv, .nils, vs' e.ev.text] := by rw [cutK_eq]; rfl
section
variable {E : Env'} {Q : V → Mem → Nat → Prop}
attribute [local irreducible] Ok callK loopK lenL nthL takeL dropL eqBs getM putM appVC evM cutK elsC
theorem tail3 (T : Tab E) {F F1 F2 : Nat} (e1 : F = F1 + 1) (e2 : F1 = F2 + 1) (hF2 : 1000 < F2) {kN kR : KKN} {kE : Nat → KKN} {fi : List FI} {t : Tr 3 V} {m : Mem} {n px hi : Nat} {s : Bs} {x : Ev1} {nx : V} {ex : Int}
  (t2 : t.get 2 = some (vs' s)) (t11 : t.get 11 = some (.ptr px 0)) (t12 : t.get 12 = some (vi ex)) (hs : s.length ≤ 1200) (gx : m.get px = some (.cells [vi x.num, vs' x.ev.kind, nx, .nils, vs' x.ev.text] 25)) (hnx : NamesIn 0 hi x.ev.names nx m) (hax : allOne [vi x.num, vs' x.ev.kind, nx, .nils, vs' x.ev.text] = true) (hpx : px < n) (hhi : hi ≤ n) (hn : n ≤ 150000) (hx : DecRes s x ex)
  (H : ∀ t' m' n', t'.get 6 = some (.bool true) → (∀ j, j < n → m'.get j = m.get j) → Ok Q (kR t' m' n' fi)) : Ok Q ((comp E tl3).run F (callK E F) t m n fi kN kE kR) := by
 obtain ⟨e, nv, err, md, nd, hdec, hnd1, hnd2, hmd, hnm, hres, hall⟩ := dec_cases (ln := s) (by omega) m (n := n) (by omega)
 obtain ⟨rfl, rfl⟩ := hx.eq hres
 have q1 : eqIK ex ex = true := eqIK_tt rfl
 have a5 : tAwake [] = some (.bool true) := rfl
 have hnl := hx.names
 obtain ⟨f_t, rfl⟩ := mkT_form [(2, _), (11, _), (12, _)] ⟨t2, t11, t12, trivial⟩
 conv => arg 2; whnf
 refine Ok.opt (callK_mnatE T.n13 T.h13 e1 hdec) ?_
 conv => arg 2; whnf
 refine Ok.putM (by omega) fun m1 hm1 => ?_
 have g1 : m1.get nd = some (.cells [vi 0, vs' [], .nils, .nils, vs' []] 25) := by (rw [hm1, if_pos rfl]) <;> rfl
 conv => arg 2; whnf
 refine Ok.getM g1 (by omega) ?_
 conv => arg 2; whnf
 refine Ok.tt hall ?_
 conv => arg 2; whnf
 refine Ok.putM (by omega) fun m2 hm2 => ?_
 have g2 : m2.get nd = some (.cells [vi x.num, vs' x.ev.kind, nv, .nils, vs' x.ev.text] 25) := by (rw [hm2, if_pos rfl]) <;> rfl
 have hk2 : ∀ j, j < n → m2.get j = m.get j := fun j hj => by rw [hm2, if_neg (by omega), hm1, if_neg (by omega), hmd j (by omega)]
 have gx : m2.get px = some (.cells [vi x.num, vs' x.ev.kind, nx, .nils, vs' x.ev.text] 25) := by rw [hk2 px hpx]; exact gx
 conv => arg 2; whnf
 repeat ((first | refine Ok.T ?_ | refine Ok.ldA gx (by omega) (by with_reducible first | exact cE5d) ?_); conv => arg 2; whnf)
 refine Ok.putM (by omega) fun m3 hm3 => ?_
 have g3 : m3.get (nd + 1) = some (.cells [vi x.num, vs' x.ev.kind, nx, .nils, vs' x.ev.text] 25) := by (rw [hm3, if_pos rfl]) <;> rfl
 have g2' : m3.get nd = some (.cells [vi x.num, vs' x.ev.kind, nv, .nils, vs' x.ev.text] 25) := by rw [hm3, if_neg (by omega)]; exact g2
 conv => arg 2; whnf
 repeat ((first | refine Ok.T ?_ | refine Ok.ldA g2' (by omega) (by with_reducible first | exact cE5d) ?_); conv => arg 2; whnf)
 refine Ok.putM (by omega) fun m4 hm4 => ?_
 have g4 : m4.get (nd + 2) = some (.cells [vi x.num, vs' x.ev.kind, nv, .nils, vs' x.ev.text] 25) := by (rw [hm4, if_pos rfl]) <;> rfl
 have g3' : m4.get (nd + 1) = some (.cells [vi x.num, vs' x.ev.kind, nx, .nils, vs' x.ev.text] 25) := by rw [hm4, if_neg (by omega)]; exact g3
 have hk4 : ∀ j, j < n → m4.get j = m.get j := fun j hj => by rw [hm4, if_neg (by omega), hm3, if_neg (by omega), hk2 j hj]
 have hkd : ∀ j, j < nd → m4.get j = md.get j := fun j hj => by rw [hm4, if_neg (by omega), hm3, if_neg (by omega), hm2, if_neg (by omega), hm1, if_neg (by omega)]
 conv => arg 2; whnf
 repeat ((first | refine Ok.T ?_); conv => arg 2; whnf)
 refine Ok.sub (g7 T.h14 T.h43 e1 e2 hF2 (lo := 0) (hi := hi) (lo2 := n) (hi2 := nd) (a := nd + 1) (b := nd + 2) (es := [x]) (ca := some 1) (cb := some 1) (by simpa using hnl) (by simp) (by omega) (by omega) (by omega) (by omega) g3' g4
  (EvCells.snoc (es := []) (cs := []) (hnx.keep (Nat.le_refl _) fun j b _ hj h => by rw [hk4 j (by omega)]; exact h) rfl) (EvCells.snoc (es := []) (cs := []) (hnm.keep (Nat.le_refl _) fun j b _ hj h => by rw [hkd j hj]; exact h) rfl)) fun v m5 n5 hq => ?_
 obtain ⟨rfl, rfl, rfl⟩ := hq
 conv => arg 2; whnf
 repeat ((first | refine Ok.T ?_ | refine Ok.N T.h5 e1 a5 ?_); conv => arg 2; whnf)
 refine H _ _ _ ?_ hk4
 rfl
end
end Go.Fm
set_option maxHeartbeats 8000000
namespace Go.Fm
theorem firstN2 (a c : Int) : firstN [a, c] = if a = 0 then c else a := by by_cases ha : a = 0 <;> by_cases hc : c = 0 <;> simp [firstN, ha, hc]
theorem firstN3 (a c w : Int) : firstN [a, c, w] = if a = 0 then (if c = 0 then w else c) else a := by by_cases ha : a = 0 <;> by_cases hc : c = 0 <;> by_cases hw : w = 0 <;> simp [firstN, ha, hc, hw]
section
variable {E : Env'} {Q : V → Mem → Nat → Prop}
attribute [local irreducible] Ok callK loopK lenL nthL takeL dropL eqBs getM putM appVC evM cutK elsC tl3
theorem g3B (T : Tab E) {e : EvG} {nv vv : V} {m : Mem} {n : Nat} (hn : n ≤ 10) (hs : NamesV nv e.names m) (hlow : LowV nv n) (hv : LenV vv e.vals) (log s : Bs) {K F F1 F2 F3 F4 F5 F6 F7 : Nat} (e0 : K = F + 1) (e1 : F = F1 + 1) (e2 : F1 = F2 + 1) (e3 : F2 = F3 + 1) (e4 : F3 = F4 + 1) (e5 : F4 = F5 + 1) (e6 : F5 = F6 + 1) (e7 : F6 = F7 + 1) (hF : 3000 < F7) :
  Ok (fun v m' _ => v = .bool true ∧ ∀ j, j < n → m'.get j = m.get j) (callK E K (.f 3) [evV e nv vv, vs' log, vs' s] m n) := by
 have hl := hs.len
 have a5 : tAwake [] = some (.bool true) := rfl
 refine T.h3.run e0 (show 3 ≤ 135 by omega) ?_
 unfold evV
 conv => arg 2; whnf
 refine Ok.putM (by omega) fun m1 hm1 => ?_
 have g1 : m1.get n = some (.cells [vi e.num, vs' e.kind, nv, vv, vs' e.text] 25) := by (rw [hm1, if_pos rfl]) <;> rfl
 have hk1 : ∀ j, j < n → m1.get j = m.get j := fun j hj => by rw [hm1, if_neg (by omega)]
 conv => arg 2; whnf
 repeat ((first | refine Ok.ldA g1 (by omega) (by with_reducible first | exact cE5) ?_); conv => arg 2; whnf)
 refine Ok.putM (by omega) fun m2 hm2 => ?_
 have g2 : m2.get (n + 1) = some (.cells [vi e.num, vs' e.kind, nv, vv, vs' e.text] 25) := by (rw [hm2, if_pos rfl]) <;> rfl
 have hk2 : ∀ j, j < n + 1 → m2.get j = m1.get j := fun j hj => by rw [hm2, if_neg (by omega)]
 conv => arg 2; whnf
 refine Ok.sub (g4 T.h4 (e := e) (nv := nv) (vv := vv) (by omega) g2 (by omega) (hs.keep hlow fun j hj => by rw [hk2 j (by omega), hk1 j hj]) (fun i o l c hq => by have := hlow i o l c hq; omega) hv e1 e2 e3 (by omega)) fun v m3 n3 hq => ?_
 obtain ⟨⟨b, rfl, hb⟩, hm3, rfl⟩ := hq
 cases b with
 | false =>
  conv => arg 2; whnf
  repeat ((first | refine Ok.N T.h5 e1 a5 ?_); conv => arg 2; whnf)
  exact Ok.done ⟨rfl, fun j hj => by rw [hm3 j (by omega), hk2 j (by omega), hk1 j hj]⟩
 | true =>
 have hh := hb rfl
 have k3 : ∀ j, j < n + 1 → m3.get j = m1.get j := fun j hj => by rw [hm3 j (by omega), hk2 j hj]
 by_cases hlog : 1200 < log.length
 ·have q1 : ltIK 1200 (Int.ofNat (lenL log)) = true := by rw [lenL_eq]; exact ltIK_tt (by show (1200 : Int) < (log.length : Int); omega)
  conv => arg 2; whnf
  repeat ((first | refine Ok.T ?_ | refine Ok.N T.h5 e1 a5 ?_); conv => arg 2; whnf)
  exact Ok.done ⟨rfl, fun j hj => by rw [k3 j (by omega), hk1 j hj]⟩
 have q1 : ltIK 1200 (Int.ofNat (lenL log)) = false := by rw [lenL_eq]; exact ltIK_ff (by show (log.length : Int) ≤ 1200; omega)
 by_cases hsl : 1200 < s.length
 ·have q2 : ltIK 1200 (Int.ofNat (lenL s)) = true := by rw [lenL_eq]; exact ltIK_tt (by show (1200 : Int) < (s.length : Int); omega)
  conv => arg 2; whnf
  repeat ((first | refine Ok.T ?_ | refine Ok.F ?_ | refine Ok.N T.h5 e1 a5 ?_); conv => arg 2; whnf)
  exact Ok.done ⟨rfl, fun j hj => by rw [k3 j (by omega), hk1 j hj]⟩
 have q2 : ltIK 1200 (Int.ofNat (lenL s)) = false := by rw [lenL_eq]; exact ltIK_ff (by show (s.length : Int) ≤ 1200; omega)
 obtain ⟨⟨es, p, er⟩, hR⟩ : ∃ q, recoverS Lib.decDigits (log.length + 1) [] 0 log = q := ⟨_, rfl⟩
 obtain ⟨X, hX⟩ : ∃ X, (if chkG e = 0 then encG e else []) = X := ⟨_, rfl⟩
 obtain ⟨Y, hY⟩ : ∃ Y, (if appE er e es.length = 0 then log ++ encG e ++ [10] else []) = Y := ⟨_, rfl⟩
 obtain ⟨c, hcc⟩ : ∃ c : Int, (chkG e : Int) = c := ⟨_, rfl⟩
 obtain ⟨ae, hae⟩ : ∃ ae : Int, appE er e es.length = ae := ⟨_, rfl⟩
 obtain ⟨z, hz⟩ : ∃ z : Int, firstN [(er : Int), c] = z := ⟨_, rfl⟩
 have g3 : m3.get n = some (.cells [vi e.num, vs' e.kind, nv, vv, vs' e.text] 25) := by rw [k3 n (by omega)]; exact g1
 have hs3 : NamesV nv e.names m3 := hs.keep hlow fun j hj => by rw [k3 j (by omega), hk1 j hj]
 conv => arg 2; whnf
 repeat ((first | refine Ok.F ?_ | refine Ok.ldA g3 (by omega) (by with_reducible first | exact cE5) ?_); conv => arg 2; whnf)
 refine Ok.sub (g6E T (e := e) (nv := nv) (vv := vv) (by omega) hs3 (fun i o l c hq => by have := hlow i o l c hq; omega) hv hh e1 e2 e3 e4 e5 e6 e7 (by omega)) fun v m4 n4 hq => ?_
 obtain ⟨hv4, hm4, hn4⟩ := hq
 rw [hX, hcc] at hv4
 subst hv4
 have g4 : m4.get n = some (.cells [vi e.num, vs' e.kind, nv, vv, vs' e.text] 25) := by rw [hm4 n (by omega)]; exact g3
 conv => arg 2; whnf
 repeat ((first | refine Ok.ldA g4 (by omega) (by with_reducible first | exact cE5) ?_); conv => arg 2; whnf)
 have hs4 : NamesV nv e.names m4 := hs3.keep (fun i o l c hq => by have := hlow i o l c hq; omega) hm4
 refine Ok.sub (g7A T (e := e) (nv := nv) (vv := vv) (by omega) hs4 (fun i o l c hq => by have := hlow i o l c hq; omega) hv hh (log := log) (by omega) hR e1 e2 e3 e4 e5 e6 e7 (by omega)) fun v m5 n5 hq => ?_
 obtain ⟨hv5, hm5, hn5⟩ := hq
 unfold appV at hv5
 rw [hY, hae] at hv5
 subst hv5
 have k5 : ∀ j, j < n + 1 → m5.get j = m1.get j := fun j hj => by rw [hm5 j (by omega), hm4 j (by omega), k3 j hj]
 conv => arg 2; whnf
 obtain ⟨x, nx, ex, md, nd, hdec, hnd1, hnd2, hmd, hnm, hres, hall⟩ := dec_cases (ln := s) (by omega) m5 (n := n5) (by omega)
 refine Ok.opt (callK_mnatE T.n8 T.h8 e1 hdec) ?_
 conv => arg 2; whnf
 refine Ok.putM (by omega) fun m6 hm6 => ?_
 have gz6 : m6.get nd = some (.cells [vi 0, vs' [], .nils, .nils, vs' []] 25) := by (rw [hm6, if_pos rfl]) <;> rfl
 conv => arg 2; whnf
 refine Ok.getM gz6 (by omega) ?_
 conv => arg 2; whnf
 refine Ok.tt hall ?_
 conv => arg 2; whnf
 refine Ok.putM (by omega) fun m7 hm7 => ?_
 have gz7 : m7.get nd = some (.cells [vi x.num, vs' x.ev.kind, nx, .nils, vs' x.ev.text] 25) := by (rw [hm7, if_pos rfl]) <;> rfl
 have kd : ∀ j, j < nd → m7.get j = md.get j := fun j hj => by rw [hm7, if_neg (by omega), hm6, if_neg (by omega)]
 have k7 : ∀ j, j < n + 1 → m7.get j = m1.get j := fun j hj => by rw [kd j (by omega), hmd j (by omega), k5 j hj]
 have g8 : m7.get n = some (.cells [vi e.num, vs' e.kind, nv, vv, vs' e.text] 25) := by rw [k7 n (by omega)]; exact g1
 have hs7 : NamesV nv e.names m7 := hs.keep hlow fun j hj => by rw [k7 j (by omega), hk1 j hj]
 conv => arg 2; whnf
 repeat ((first | refine Ok.ldA g8 (by omega) (by with_reducible first | exact cE5) ?_); conv => arg 2; whnf)
 refine Ok.sub (g62 T.h9 T.h35 T.h36 (e := e) (nv := nv) (vv := vv) (by omega) hs7 (fun i o l c hq => by have := hlow i o l c hq; omega) hv hh.few e1 e2 (by have := hh.hn; omega)) fun v m8 n8 hq => ?_
 obtain ⟨hv8, hm8, rfl⟩ := hq
 rw [hcc] at hv8
 subst hv8
 conv => arg 2; whnf
 refine Ok.sub (Go.Fm.g6 T.h10 T.n13 T.h13 e1 e2 (log := log) (by omega) (by omega) (m := m8) (n := nd + 1 + 1) (by omega) hR) fun v m9 n9 hq => ?_
 obtain ⟨sl, hs9, hn9, hm9, rfl⟩ := hq
 have hlen := hs9.len
 conv => arg 2; whnf
 refine Ok.putM (by omega) fun m10 hm10 => ?_
 have g10 : m10.get n9 = some (.cells [vi (er : Nat), vi c] 3) := by (rw [hm10, if_pos rfl]) <;> rfl
 have kn : ∀ j, j < nd + 1 → m10.get j = m7.get j := fun j hj => by rw [hm10, if_neg (by omega), hm9 j (by omega), hm8 j (by omega)]
 have k10 : ∀ j, j < n + 1 → m10.get j = m1.get j := fun j hj => by rw [kn j (by omega), k7 j hj]
 have gx : m10.get nd = some (.cells [vi x.num, vs' x.ev.kind, nx, .nils, vs' x.ev.text] 25) := by rw [kn nd (by omega)]; exact gz7
 have hnx : NamesIn 0 nd x.ev.names nx m10 := by
  rcases hnm with h | ⟨h0, i, h1, h2, h3, h4⟩
  ·exact .inl h
  ·exact .inr ⟨h0, i, h1, by rw [kn i (by omega), kd i h4]; exact h2, by omega, h4⟩
 have ge : m10.get n = some (.cells [vi e.num, vs' e.kind, nv, vv, vs' e.text] 25) := by rw [k10 n (by omega)]; exact g1
 have hs10 : NamesV nv e.names m10 := hs.keep hlow fun j hj => by rw [k10 j (by omega), hk1 j hj]
 conv => arg 2; whnf
 refine Ok.sub (g21two T.h11 g10 (by omega) e1 (by omega)) fun v m11 n11 hq => ?_
 obtain ⟨hv11, rfl, rfl⟩ := hq
 rw [hz] at hv11
 subst hv11
 have hz2 : z = if (er : Int) = 0 then c else er := by rw [← hz]; exact firstN2 _ _
 have hae3 : ae = if (er : Int) = 0 then (if c = 0 then (if 1000 ≤ es.length then 5 else 0) else c) else er := by rw [← hae, ← hcc]; exact firstN3 _ _ _
 have fin : ∀ (t : Tr 3 V) (m' : Mem) (n' : Nat), t.get 2 = some (vs' s) → t.get 11 = some (.ptr nd 0) → t.get 12 = some (vi ex) → (∀ j, j < nd + 1 → m'.get j = m11.get j) → n9 ≤ n' → n' ≤ 100000 →
   Ok (fun v m' _ => v = .bool true ∧ ∀ j, j < n → m'.get j = m.get j) ((comp E tl3).run F (callK E F) t m' n' [] (endF E F (callK E F) fe3.res) noE (endF E F (callK E F) fe3.res)) := by
  intro t m' n' t2 t11 t12 hm hn1 hn2
  refine tail3 T e1 e2 (by omega) t2 t11 t12 (by omega) (by rw [hm nd (by omega)]; exact gx) (hnx.keep (Nat.le_refl _) fun j b _ hj h => by rw [hm j (by omega)]; exact h) hall (by omega) (by omega) (by omega) hres fun t' m2' n' t'6 hm2' => ?_
  obtain ⟨f_tp, rfl⟩ := mkT_form [(6, _)] ⟨t'6, trivial⟩
  conv => arg 2; whnf
  exact Ok.done ⟨rfl, fun j hj => by rw [hm2' j (by omega), hm j (by omega), k10 j (by omega), hk1 j hj]⟩
 have fcc := nbI (k := c)
 by_cases hc0 : c = 0
 ·have hgd := hh.good (show chkG e = 0 by omega)
  have hel := enc_len hgd
  have f1 := eqIK_tt hc0
  have f2 := neI_f hc0
  rw [if_pos (show chkG e = 0 by omega)] at hX
  have fx : (nB (eqBs X (encG e))) = false := by rw [eqB_t hX.symm]
  have a1 := addOk (a := log) (b := encG e) (by omega)
  have a2 := addOk (a := List.append log (encG e)) (b := [10]) (by have : (List.append log (encG e)).length = log.length + (encG e).length := (by show (log ++ encG e).length = _; simp); simp only [this]; simp; omega)
  by_cases hz0 : z = 0
  ·have f3 := eqIK_tt hz0
   by_cases hm : 1000 ≤ es.length
   ·have hae5 : ae = 5 := by rw [hae3]; split at hz2 <;> simp_all
    have f4 : leIK 1000 (Int.ofNat es.length) = true := leIK_tt (by show (1000 : Int) ≤ (es.length : Int); omega)
    have f5 : (nB (eqIK ae 5)) = false := by rw [eqIK_tt hae5]
    rw [if_neg (by omega)] at hY
    have fy : (nB (eqBs Y [])) = false := by rw [eqB_t hY.symm]
    conv => arg 2; whnf
    repeat ((first | refine Ok.T ?_ | refine Ok.F ?_ | refine Ok.lenV hlen rfl (fun _ _ _ _ => rfl) rfl ?_ | refine Ok.ldA ge (by omega) (by with_reducible first | exact cE5) ?_); conv => arg 2; whnf)
    refine Ok.sub (g12 T (e := e) (nv := nv) (vv := vv) (by omega) hs10 (fun i o l c hq => by have := hlow i o l c hq; omega) hv hgd e1 e2 e3 (by omega)) fun v m12 n12 hq => ?_
    obtain ⟨rfl, hm12, rfl⟩ := hq
    conv => arg 2; whnf
    repeat ((first | refine Ok.T ?_ | refine Ok.F ?_); conv => arg 2; whnf)
    refine fin _ _ _ ?_ ?_ ?_ (fun j hj => hm12 j (by omega)) (by omega) (by omega)
    ·rfl
    ·rfl
    ·rfl
   ·have hae5 : ae = z := by rw [hae3]; split at hz2 <;> simp_all <;> omega
    have f4 : leIK 1000 (Int.ofNat es.length) = false := leIK_ff (by show (es.length : Int) < 1000; omega)
    have f5 : (nB (eqIK ae z)) = false := by rw [eqIK_tt hae5]
    have f6 := neI_f hz0
    rw [if_pos (by omega)] at hY
    have fy : (nB (eqBs Y (List.append (List.append log (encG e)) [10]))) = false := by rw [eqB_t (show Y = List.append (List.append log (encG e)) [10] from hY.symm)]
    conv => arg 2; whnf
    repeat ((first | refine Ok.T ?_ | refine Ok.F ?_ | refine Ok.lenV hlen rfl (fun _ _ _ _ => rfl) rfl ?_ | refine Ok.ldA ge (by omega) (by with_reducible first | exact cE5) ?_); conv => arg 2; whnf)
    refine Ok.sub (g12 T (e := e) (nv := nv) (vv := vv) (by omega) hs10 (fun i o l c hq => by have := hlow i o l c hq; omega) hv hgd e1 e2 e3 (by omega)) fun v m12 n12 hq => ?_
    obtain ⟨rfl, hm12, rfl⟩ := hq
    conv => arg 2; whnf
    have ge12 : m12.get n = some (.cells [vi e.num, vs' e.kind, nv, vv, vs' e.text] 25) := by rw [hm12 n (by omega)]; exact ge
    have hs12 : NamesV nv e.names m12 := hs.keep hlow fun j hj => by rw [hm12 j (by omega), k10 j (by omega), hk1 j hj]
    repeat ((first | refine Ok.T ?_ | refine Ok.F ?_ | refine Ok.ldA ge12 (by omega) (by with_reducible first | exact cE5) ?_); conv => arg 2; whnf)
    refine Ok.sub (g12 T (e := e) (nv := nv) (vv := vv) (by omega) hs12 (fun i o l c hq => by have := hlow i o l c hq; omega) hv hgd e1 e2 e3 (by omega)) fun v m13 n13 hq => ?_
    obtain ⟨rfl, hm13, rfl⟩ := hq
    conv => arg 2; whnf
    repeat ((first | refine Ok.T ?_ | refine Ok.F ?_); conv => arg 2; whnf)
    refine fin _ _ _ ?_ ?_ ?_ (fun j hj => by rw [hm13 j (by omega), hm12 j (by omega)]) (by omega) (by omega)
    ·rfl
    ·rfl
    ·rfl
  ·have f3 := eqIK_ff hz0
   have hae5 : ae = z := by rw [hae3]; split at hz2 <;> simp_all
   have f5 : (nB (eqIK ae z)) = false := by rw [eqIK_tt hae5]
   have f6 := neI_t hz0
   rw [if_neg (by omega)] at hY
   have fy : (nB (eqBs Y [])) = false := by rw [eqB_t hY.symm]
   conv => arg 2; whnf
   repeat ((first | refine Ok.T ?_ | refine Ok.F ?_ | refine Ok.ldA ge (by omega) (by with_reducible first | exact cE5) ?_); conv => arg 2; whnf)
   refine Ok.sub (g12 T (e := e) (nv := nv) (vv := vv) (by omega) hs10 (fun i o l c hq => by have := hlow i o l c hq; omega) hv hgd e1 e2 e3 (by omega)) fun v m12 n12 hq => ?_
   obtain ⟨rfl, hm12, rfl⟩ := hq
   conv => arg 2; whnf
   repeat ((first | refine Ok.T ?_ | refine Ok.F ?_); conv => arg 2; whnf)
   refine fin _ _ _ ?_ ?_ ?_ (fun j hj => hm12 j (by omega)) (by omega) (by omega)
   ·rfl
   ·rfl
   ·rfl
 ·have hz0 : z ≠ 0 := by rw [hz2]; split <;> omega
  have f1 := eqIK_ff hc0
  have f2 := neI_t hc0
  have f3 := eqIK_ff hz0
  have f6 := neI_t hz0
  have hae5 : ae = z := by rw [hae3, hz2]; simp [hc0]
  have f5 : (nB (eqIK ae z)) = false := by rw [eqIK_tt hae5]
  rw [if_neg (by omega)] at hX
  rw [if_neg (by omega)] at hY
  have fx : (nB (eqBs X [])) = false := by rw [eqB_t hX.symm]
  have fy : (nB (eqBs Y [])) = false := by rw [eqB_t hY.symm]
  conv => arg 2; whnf
  repeat ((first | refine Ok.T ?_ | refine Ok.F ?_); conv => arg 2; whnf)
  refine fin _ _ _ ?_ ?_ ?_ (fun j hj => rfl) (by omega) (by omega)
  ·rfl
  ·rfl
  ·rfl
end
end Go.Fm
namespace Go.Fm
open Go.RowKit
theorem calls_of_run [Ctx] {P : Program} {E : Env'} (hE : EnvOk P E) {f : FuncId} (hent : ∀ args w, (callFunc f args).run P w = .ok (.enter f args) w) {vs : List V} {m m' : Mem} {n n' K : Nat} {v : V} (h : callK E K (.f f) vs m n = some (v, m', n'))
  {β : Nat → Nat × Nat} {kn : Nat → Prop} {args : Array Value} {w : World} (hms : MS β kn m w) (hva : VA β kn vs args) (hfr : Fresh kn n n') :
  Calls P f args w fun e w' => ∃ x β', e = .returned x ∧ VR β' (KN kn n n') v x ∧ Goes β kn m w β' (KN kn n n') m' w' := by
 obtain ⟨j0, hj⟩ := callK_ok K _ _ _ _ _ h
 obtain ⟨_, hc⟩ := call_ok hE j0 (.f f) vs m n v m' n' (hj j0 (Nat.le_refl _))
 let o : Oper := { dst := some 0, op := .call { callee := .value (.func f), args := #[], argTypes := #[] }, type := 0, pos := "", after := #[], guard := none }
 let a : Act := { tmps := #[undef], defers := [] }
 have hh := hc β kn args w hms hva trivial hfr none o a (fun a' w' => ∃ x β', a' = a.put (some 0) x ∧ VR β' (KN kn n n') v x ∧ Goes β kn m w β' (KN kn n n') m' w') (fun _ _ _ => False) fun β' x w' hg hx => ⟨x, β', rfl, hx, hg⟩
 rw [show (runC β (.f f) args).run P w = .ok (.enter f args) w from hent args w] at hh
 refine (callsIn_FW.1 hh.2).mono ?_
 intro e w' he
 cases e with
 | returned y =>
  obtain ⟨x, β', e1, hx, hg⟩ := he
  have : y = x := by
   have := congrArg (fun q : Act => q.tmps[0]?) e1
   simpa [o, a, Act.put] using this
  subst this
  exact ⟨y, β', rfl, hx, hg⟩
 | panicked c => exact he.elim
 | outgrown => obtain ⟨_, _, _, h⟩ := he
def NamesW (w : World) (v : Value) (names : List ByteArray) : Prop := (v = .slice none 0 0 ∧ names = []) ∨ ∃ a cap, v = .slice (some a) names.length cap ∧ a.spot = none ∧ names.length ≤ cap ∧ ∀ i x, names[i]? = some x → w.cell? (a.add i) = some (.string x)
def LenW (v : Value) : Prop := v = .slice none 0 0 ∨ ∃ a len cap, v = .slice (some a) len cap ∧ a.spot = none ∧ len ≤ cap
theorem cell_at {w : World} {a : Addr} {x : Value} (ha : a.spot = none) {i : Nat} (h : w.cell? (a.add i) = some x) : ∃ arr T fr, w.heap[a.block]? = some (.cells arr T fr) ∧ arr[a.off + i]? = some x := by
 obtain ⟨b, o, s⟩ := a
 simp only at ha
 subst ha
 unfold World.cell? Addr.add at h
 by_cases hi : i = 0
 ·subst hi
  rw [if_pos rfl] at h
  simp only at h
  split at h
  ·rename_i c _ _ hc
   exact ⟨_, _, _, hc, by simpa using h⟩
  ·cases h
 ·rw [if_neg hi] at h
  simp only at h
  split at h
  ·rename_i c _ _ hc
   exact ⟨_, _, _, hc, by simpa using h⟩
  ·cases h
def bsOf (s : ByteArray) : Bs := s.data.toList
theorem m1_get (b : B) (j : Nat) : (m1 b).get j = if j = 0 then some b else none := by
 have e : Tr.set fuel (memOf []) 0 (some b) = some (m1 b) := by
  rw [show memOf [] = y6 from nil_y, set6 y6 0 (some b) rfl]; rfl
 rw [Tr.get_set e j]
 split
 ·rfl
 ·exact Tr.get_nil j
theorem names_mem {w : World} {nsl : Value} {names : List ByteArray} (hn : NamesW w nsl names) : ∃ (nv : V) (m : Mem) (β0 : Nat × Nat), NamesV nv (names.map bsOf) m ∧ LowV nv 2 ∧ (∀ (β : Nat → Nat × Nat) (kn : Nat → Prop), kn 0 → β 0 = β0 → VR β kn nv nsl) ∧
  ∀ j b, m.get j = some b → j = 0 ∧ ∃ (cs : List V) (arr : Array Value) (T : TypeId) (fr : Nat × Nat), b = .fix cs (.cells arr T fr) ∧ w.heap[β0.1]? = some (.cells arr T fr) ∧ (∀ β kn, VRow β kn arr 0 cs) ∧ ∃ (i : Nat) (x : ByteArray), arr[i]? = some (Value.string x) := by
 rcases hn with ⟨rfl, rfl⟩ | ⟨⟨b, o, sp⟩, cap, rfl, hs, hle, hc⟩
 ·exact ⟨.nils, .nil, (0, 0), .inl ⟨rfl, rfl⟩, (fun _ _ _ _ h => by cases h), (fun _ _ _ _ => .nils), fun j b h => by rw [Tr.get_nil] at h; cases h⟩
 ·simp only at hs
  subst hs
  have hvr : ∀ (β : Nat → Nat × Nat) (kn : Nat → Prop), kn 0 → β 0 = (b, o + cap) → VR β kn (.sl 0 o names.length none 1) (.slice (some ⟨b, o, none⟩) names.length cap) := fun β kn hk hb => by
   have := VR.sl (β := β) (kn := kn) 0 o names.length none 1 cap o hk hle (by rw [hb]; simp) (fun k h => by cases h) (.inl rfl)
   rw [hb] at this; exact this
  by_cases h0 : names = []
  ·subst h0
   exact ⟨.sl 0 o 0 none 1, .nil, (b, o + cap), .inr ⟨0, o, none, rfl, .inl rfl⟩, (fun i _ _ _ h => by injection h with h; omega), hvr, fun j b h => by rw [Tr.get_nil] at h; cases h⟩
  ·have hl : 0 < names.length := List.length_pos_iff.2 h0
   obtain ⟨arr, T, fr, hh, h00⟩ := cell_at rfl (hc 0 (names[0]'hl) (List.getElem?_eq_getElem hl))
   have hall : ∀ i x, names[i]? = some x → arr[o + i]? = some (.string x) := fun i x hx => by
    obtain ⟨arr', T', fr', hh', h'⟩ := cell_at rfl (hc i x hx)
    rw [hh] at hh'
    injection hh' with hh'; injection hh' with hh' _ _
    subst hh'; exact h'
   have hlast := hall (names.length - 1) (names[names.length - 1]'(by omega)) (List.getElem?_eq_getElem (by omega))
   have hlt : o + names.length ≤ arr.size := by
    have := (Array.getElem?_eq_some_iff.1 hlast).1; omega
   let cs : List V := List.replicate o .u ++ names.map fun x => vs' (bsOf x)
   have hcs : ∀ i x, (names.map bsOf)[i]? = some x → cs[o + i]? = some (vs' x) := fun i x hx => by
    show (List.replicate o V.u ++ names.map fun x => vs' (bsOf x))[o + i]? = _
    rw [List.getElem?_append_right (by simp)]
    rw [List.getElem?_map] at hx
    simp only [List.length_replicate, Nat.add_sub_cancel_left, List.getElem?_map]
    cases hq : names[i]? with
    | none => rw [hq] at hx; cases hx
    | some y => rw [hq] at hx; injection hx with hx; subst hx; rfl
   refine ⟨.sl 0 o names.length none 1, m1 (.fix cs (.cells arr T fr)), (b, o + cap), .inr ⟨0, o, none, by simp, .inr ⟨by omega, _, cs, by rw [m1_get, if_pos rfl], fun _ => rfl, hcs⟩⟩, (fun i _ _ _ h => by injection h with h; omega), hvr, fun j b' hj => ?_⟩
   rw [m1_get] at hj
   split at hj
   ·rename_i hj0
    injection hj with hj
    refine ⟨hj0, cs, arr, T, fr, hj.symm, hh, fun β kn => ⟨?_, fun i v x hv hx => ?_⟩, o + 0, _, h00⟩
    ·show 0 + (List.replicate o V.u ++ names.map fun x => vs' (bsOf x)).length ≤ arr.size
     simp; omega
    ·rw [Nat.zero_add] at hx
     by_cases hi : i < o
     ·have : cs[i]? = some V.u := by
       show (List.replicate o V.u ++ names.map fun x => vs' (bsOf x))[i]? = _
       rw [List.getElem?_append_left (by simpa using hi), List.getElem?_replicate, if_pos hi]
      rw [this] at hv; injection hv with hv; subst hv; exact .u x
     ·obtain ⟨k, rfl⟩ : ∃ k, i = o + k := ⟨i - o, by omega⟩
      cases hq : names[k]? with
      | none =>
       exfalso
       have : cs[o + k]? = none := by
        show (List.replicate o V.u ++ names.map fun x => vs' (bsOf x))[o + k]? = _
        rw [List.getElem?_append_right (by simp)]; simp [hq]
       rw [this] at hv; cases hv
      | some y =>
       have h1 := hcs k (bsOf y) (by rw [List.getElem?_map, hq]; rfl)
       rw [h1] at hv; injection hv with hv; subst hv
       rw [hall k y hq] at hx; injection hx with hx; subst hx
       exact .str y
   ·cases hj
theorem law_mem [Ctx] {P : Program} {E : Env'} (hE : EnvOk P E) (T : Tab E) (hent : ∀ args w, (callFunc 3 args).run P w = .ok (.enter 3 args) w) {num : Int} {kd text log s : ByteArray} {names : List ByteArray} {nsl vsl : Value} {w : World} (hgl : GL w) (hn : NamesW w nsl names) (hv : LenW vsl)
  (hg2 : ∀ q ∈ Ctx.gl, ∀ (arr : Array Value) (T : TypeId) (fr : Nat × Nat) (i : Nat) (x : ByteArray), q.2 = .cells arr T fr → arr[i]? ≠ some (Value.string x)) :
  Calls P 3 #[.agg #[.int .i64 num, .string kd, nsl, vsl, .string text], .string log, .string s] w fun e w' => e = .returned (.bool true) ∧ Below w.heap.size w w' := by
 obtain ⟨bv, nb, lv, vv, hvl, hvr⟩ : ∃ (bv nb lv : Nat) (vv : V), LenV vv lv ∧ ∀ (β : Nat → Nat × Nat) (kn : Nat → Prop), kn 1 → β 1 = (bv, nb) → VR β kn vv vsl := by
  rcases hv with rfl | ⟨⟨b, o, sp⟩, len, cap, rfl, hs, hle⟩
  ·exact ⟨0, 0, 0, .nils, .inl ⟨rfl, rfl⟩, fun _ _ _ _ => .nils⟩
  ·simp only at hs; subst hs
   refine ⟨b, o + cap, len, .sl 1 o len none 1, .inr ⟨_, _, _, _, rfl⟩, fun β kn hk hb => ?_⟩
   have := VR.sl (β := β) (kn := kn) 1 o len none 1 cap o hk hle (by rw [hb]; simp) (fun k h => by cases h) (.inl rfl)
   rw [hb] at this; exact this
 obtain ⟨nv, m, β0, hnv, hlow, hnr, hm⟩ := names_mem hn
 let e : EvG := ⟨num, bsOf kd, names.map bsOf, lv, bsOf text⟩
 obtain ⟨v, m', n', hrun, rfl, hfr⟩ := g3B T (e := e) (nv := nv) (vv := vv) (m := m) (n := 2) (by omega) hnv hlow hvl (bsOf log) (bsOf s) (K := 3009) rfl rfl rfl rfl rfl rfl rfl rfl (by omega)
 let β : Nat → Nat × Nat := fun i => if i = 0 then β0 else (bv, nb)
 let kn : Nat → Prop := fun i => i < 2
 have hms : MS β kn m w := by
  refine ⟨fun id b hb => ?_, fun i j b c hi hj _ => by rw [(hm i b hi).1, (hm j c hj).1], fun q hq => ⟨hgl q hq, fun id c hc he => ?_⟩⟩
  ·obtain ⟨rfl, cs, arr, T, fr, rfl, hh, hr, _⟩ := hm id b hb
   exact ⟨(by show 0 < 2; omega), arr, T, fr, rfl, hh, hr _ _⟩
  ·obtain ⟨rfl, cs, arr, T, fr, rfl, hh, _, i, x, hx⟩ := hm id c hc
   have h1 := hgl q hq
   rw [← he] at h1
   have h2 : w.heap[β0.1]? = some q.2 := h1
   rw [hh] at h2; injection h2 with h2
   exact hg2 q hq arr T fr i x h2.symm hx
 have hva : VA β kn [evV e nv vv, vs' (bsOf log), vs' (bsOf s)] #[.agg #[.int .i64 num, .string kd, nsl, vsl, .string text], .string log, .string s] := by
  refine ⟨rfl, fun i v x h1 h2 => ?_⟩
  match i with
  | 0 =>
   simp at h1 h2; subst h1 h2
   refine .agg _ _ rfl fun i v x h1 h2 => ?_
   match i with
   | 0 => simp at h1 h2; subst h1 h2; exact .int _ _
   | 1 => simp at h1 h2; subst h1 h2; exact .str kd
   | 2 => simp at h1 h2; subst h1 h2; exact hnr β kn (by show 0 < 2; omega) rfl
   | 3 => simp at h1 h2; subst h1 h2; exact hvr β kn (by show 1 < 2; omega) rfl
   | 4 => simp at h1 h2; subst h1 h2; exact .str text
   | i + 5 => simp at h1
  | 1 => simp at h1 h2; subst h1 h2; exact .str log
  | 2 => simp at h1 h2; subst h1 h2; exact .str s
  | i + 3 => simp at h1
 refine (calls_of_run hE hent hrun hms hva (fun i h1 _ h2 => by have : i < 2 := h2; omega)).mono ?_
 rintro e w' ⟨x, β', rfl, hx, hg⟩
 cases hx
 refine ⟨rfl, hg.fr.os, hg.fr.tape, hg.fr.output, hg.fr.size, fun k hk => ?_⟩
 by_cases hid : ∃ id c, m.get id = some c ∧ (β id).1 = k
 ·obtain ⟨id, c, hc, rfl⟩ := hid
  obtain ⟨rfl, cs, arr, T, fr, rfl, hh, _⟩ := hm id c hc
  have h1 : m'.get 0 = some (.fix cs (.cells arr T fr)) := by rw [hfr 0 (by omega)]; exact hc
  obtain ⟨_, _, _, _, _, h2, _⟩ := hg.ms.blk 0 _ h1
  have h3 : β' 0 = β 0 := (hg.ext 0 (by show 0 < 2; omega)).2
  rw [h3] at h2
  exact h2.trans hh.symm
 ·exact hg.fr.block k hk fun id c hc he => hid ⟨id, c, hc, he⟩
end Go.Fm
end
