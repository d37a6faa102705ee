import Derived.Test.YtciondmibomehaaGreatDoorGA
import Derived.Laws.RangeAny
set_option maxRecDepth 100000
set_option linter.unusedSectionVars false
set_option linter.unusedVariables false
set_option linter.unusedSimpArgs false
set_option linter.constructorNameAsVariable false
noncomputable section
set_option maxHeartbeats 8000000
namespace Go.Fm
theorem idx_cut (c : UInt8) : ∀ (l : Bs) (k : Nat), idxN c.toNat l k = if (cutS c l).2.2 = true then (((cutS c l).1.length + k : Nat) : Int) else -1
 | [], k => rfl
 | b :: l, k => by
  have hb : Nat.beq b.toNat c.toNat = decide (b = c) := by
   rw [Bool.eq_iff_iff, decide_eq_true_eq]
   simp only [Nat.beq_eq]
   exact UInt8.toNat_inj
  unfold idxN cutS
  rw [hb, idx_cut c l (k + 1)]
  by_cases e : b = c
  ·simp [e]
  ·simp only [e, decide_false, cond_false, if_false]
   by_cases h : (cutS c l).2.2 = true
   ·rw [if_pos h, if_pos h]; simp; omega
   ·rw [if_neg h, if_neg h]
def s1T (g : UInt8 → Bs → V) : List V → Option V := fun vs => match vs with
 | [.str s, .str p] => match p.data.toList with
  | [c] => if s.data.toList.length ≤ 100000 then some (g c s.data.toList) else none
  | _ => none
 | _ => none
theorem s1T_at {g : UInt8 → Bs → V} {l : Bs} {c : UInt8} (h : l.length ≤ 100000) : s1T g [vs' l, vs' [c]] = some (g c l) := by
 show (if l.length ≤ 100000 then some (g c l) else none) = _
 rw [if_pos h]
def idxV1 (c : UInt8) (l : Bs) : V := vi (if (cutS c l).2.2 = true then ((cutS c l).1.length : Nat) else -1)
def cutV1 (c : UInt8) (l : Bs) : V := .tup [vs' (cutS c l).1, vs' (cutS c l).2.1, .bool (cutS c l).2.2]
def tIdx1 : List V → Option V := s1T idxV1
def tCut1 : List V → Option V := s1T cutV1
def tHas1 : List V → Option V := s1T fun c l => .bool (cutS c l).2.2
def tPre1 : List V → Option V := s1T fun c l => .bool (decide (l.head? = some c))
theorem tIndexByte_at (l : Bs) (c : UInt8) : tIndexByte [vs' l, .int .u8 (Int.ofNat c.toNat)] = some (idxV1 c l) := by
 show (bif leI 0 (Int.ofNat c.toNat) && leI (Int.ofNat c.toNat) 255 then some (V.int .i64 (idxN c.toNat l 0)) else none) = _
 have h1 : leI 0 (Int.ofNat c.toNat) = true := decide_eq_true (by show (0 : Int) ≤ (c.toNat : Int); omega)
 have h2 : leI (Int.ofNat c.toNat) 255 = true := decide_eq_true (by have := c.toNat_lt; show (c.toNat : Int) ≤ 255; omega)
 rw [h1, h2, idx_cut]
 rfl
section
variable {E : Env'} {Q : V → Mem → Nat → Prop}
attribute [local irreducible] Ok callK loopK lenL nthL takeL dropL eqBs
theorem g123 (h : Has E 141 fn123) (h209 : Has E 219 fn209) (h309 : E.nat.get 322 = some tIndexByte) (l : Bs) (c : UInt8) : Gives E 141 [vs' l, vs' [c]] (idxV1 c l) := by
 obtain ⟨F, F1, F2, h1, h2⟩ : ∃ F F1 F2, F = F1 + 1 ∧ F1 = F2 + 1 := ⟨2, 1, 0, rfl, rfl⟩
 refine h.gives2 F (show 2 ≤ 143 by omega) ?_
 have e0 : eqIK (Int.ofNat (lenL [c])) 0 = false := by rw [lenL_eq]; rfl
 by_cases hs : l = [c]
 ·have e1 : eqBs [c] l = true := eqB_t hs.symm
  have er : idxV1 c l = vi 0 := by rw [hs]; simp [idxV1, cutS]
  rw [er]
  conv => arg 2; whnf
  repeat ((first | refine Ok.T ?_ | refine Ok.F ?_); conv => arg 2; whnf)
  exact Ok.eq rfl
 ·have e1 : eqBs [c] l = false := eqB_f (fun e => hs e.symm)
  have e2 : eqIK (Int.ofNat (lenL [c])) 1 = true := by rw [lenL_eq]; rfl
  have en : nthL [c] 0 = some c := by rw [nthL_eq]; rfl
  conv => arg 2; whnf
  repeat ((first | refine Ok.T ?_ | refine Ok.F ?_ | refine Ok.opt (by with_reducible exact en) ?_ | refine Ok.callE h209 h1 (show 2 ≤ 8 by omega) ?_ | refine Ok.opt (callK_natE h309 h2 (tIndexByte_at l c) _ _) ?_ | refine Ok.ret ?_); conv => arg 2; whnf)
  exact Ok.eq rfl
end
section
variable {E : Env'} {Q : V → Mem → Nat → Prop}
attribute [local irreducible] Ok callK loopK lenL nthL takeL dropL eqBs wrapK
theorem g52 (h : Has E 73 fn52) (h123 : E.nat.get 141 = some tIdx1) {l : Bs} (hl : l.length ≤ 100000) (c : UInt8) : Gives E 73 [vs' l, vs' [c]] (cutV1 c l) := by
 obtain ⟨F, F1, h1⟩ : ∃ F F1, F = F1 + 1 := ⟨1, 0, rfl⟩
 refine h.gives2 F (show 2 ≤ 23 by omega) ?_
 obtain ⟨⟨a, r, b⟩, hk⟩ : ∃ q, cutS c l = q := ⟨_, rfl⟩
 unfold cutV1
 rw [hk]
 cases b with
 | false =>
  have e1 : tIdx1 [vs' l, vs' [c]] = some (vi (-1)) := by unfold tIdx1; rw [s1T_at hl]; unfold idxV1; rw [hk]; rfl
  have hn := cutS_none (c := c) (l := l) (by rw [hk])
  rw [hk] at hn
  obtain ⟨n1, n2, _⟩ := hn
  simp only at n1 n2
  subst n1; subst n2
  conv => arg 2; whnf
  refine Ok.N h123 h1 e1 ?_
  conv => arg 2; whnf
  exact Ok.eq rfl
 | true =>
  have e1 : tIdx1 [vs' l, vs' [c]] = some (vi (a.length : Nat)) := by unfold tIdx1; rw [s1T_at hl]; unfold idxV1; rw [hk]; rfl
  have hf := (cutS_found (c := c) (l := l) (by rw [hk])).1
  rw [hk] at hf
  simp only at hf
  subst hf
  simp only [List.length_append, List.length_cons] at hl
  have ew : wrapK .i64 ((a.length : Int).add (Int.ofNat (lenL [c]))) = ((a.length + 1 : Nat) : Int) := by
   rw [lenL_eq]; exact wrap1 (by omega)
  have f1 : leIK (a.length : Int) (Int.ofNat (lenL (a ++ c :: r))) = true := le_len (by simp)
  have f2 : leIK 0 (wrapK .i64 ((a.length : Int).add (Int.ofNat (lenL [c])))) = true := by rw [ew]; exact le_0 _
  have f3 : leIK (wrapK .i64 ((a.length : Int).add (Int.ofNat (lenL [c])))) (Int.ofNat (lenL (a ++ c :: r))) = true := by rw [ew]; exact le_len (by simp)
  have f4 := le_self (Int.ofNat (lenL (a ++ c :: r)))
  have x1 : takeL (Nat.sub (toN (a.length : Int)) (toN 0)) (dropL (toN 0) (a ++ c :: r)) = a := by rw [sl_pre]; simp
  have x2 : takeL (Nat.sub (toN (Int.ofNat (lenL (a ++ c :: r)))) (toN (wrapK .i64 ((a.length : Int).add (Int.ofNat (lenL [c])))))) (dropL (toN (wrapK .i64 ((a.length : Int).add (Int.ofNat (lenL [c]))))) (a ++ c :: r)) = r := by
   rw [ew, sl_suf]; simp
  conv => arg 2; whnf
  repeat ((first | refine Ok.T ?_ | refine Ok.N h123 h1 e1 ?_); conv => arg 2; whnf)
  refine Ok.eq (show V.tup [.str ⟨⟨takeL (Nat.sub (toN (a.length : Int)) (toN 0)) (dropL (toN 0) (a ++ c :: r))⟩⟩, .str ⟨⟨takeL (Nat.sub (toN (Int.ofNat (lenL (a ++ c :: r)))) (toN (wrapK .i64 ((a.length : Int).add (Int.ofNat (lenL [c])))))) (dropL (toN (wrapK .i64 ((a.length : Int).add (Int.ofNat (lenL [c]))))) (a ++ c :: r))⟩⟩, .bool true] = _ from ?_)
  rw [x1, x2]
theorem g19 (h : Has E 31 fn19) (h52 : E.nat.get 73 = some tCut1) {l : Bs} (hl : l.length ≤ 100000) (c : UInt8) : Gives E 31 [vs' l, vs' [c]] (cutV1 c l) := by
 obtain ⟨F, F1, h1⟩ : ∃ F F1, F = F1 + 1 := ⟨1, 0, rfl⟩
 refine h.gives2 F (show 2 ≤ 13 by omega) ?_
 conv => arg 2; whnf
 refine Ok.opt (callK_natE h52 h1 (s1T_at hl) _ _) ?_
 conv => arg 2; whnf
 exact Ok.eq rfl
theorem g103 (h : Has E 121 fn103) (h123 : E.nat.get 141 = some tIdx1) {l : Bs} (hl : l.length ≤ 100000) (c : UInt8) : Gives E 121 [vs' l, vs' [c]] (idxV1 c l) := by
 obtain ⟨F, F1, h1⟩ : ∃ F F1, F = F1 + 1 := ⟨1, 0, rfl⟩
 refine h.gives2 F (show 2 ≤ 8 by omega) ?_
 conv => arg 2; whnf
 refine Ok.opt (callK_natE h123 h1 (s1T_at hl) _ _) ?_
 conv => arg 2; whnf
 exact Ok.eq rfl
theorem g45 (h : Has E 64 fn45) (h103 : E.nat.get 121 = some tIdx1) {l : Bs} (hl : l.length ≤ 100000) (c : UInt8) : Gives E 64 [vs' l, vs' [c]] (.bool (cutS c l).2.2) := by
 obtain ⟨F, F1, h1⟩ : ∃ F F1, F = F1 + 1 := ⟨1, 0, rfl⟩
 refine h.gives2 F (show 2 ≤ 9 by omega) ?_
 cases hb : (cutS c l).2.2 with
 | true =>
  have e1 : tIdx1 [vs' l, vs' [c]] = some (vi ((cutS c l).1.length : Nat)) := by unfold tIdx1; rw [s1T_at hl]; unfold idxV1; rw [hb]; rfl
  conv => arg 2; whnf
  refine Ok.N h103 h1 e1 ?_
  conv => arg 2; whnf
  exact Ok.eqB (le_0 _)
 | false =>
  have e1 : tIdx1 [vs' l, vs' [c]] = some (vi (-1)) := by unfold tIdx1; rw [s1T_at hl]; unfold idxV1; rw [hb]; rfl
  conv => arg 2; whnf
  refine Ok.N h103 h1 e1 ?_
  conv => arg 2; whnf
  exact Ok.eqB rfl
end
end Go.Fm
set_option maxHeartbeats 8000000
namespace Go.Fm
section
variable {E : Env'} {Q : V → Mem → Nat → Prop}
attribute [local irreducible] Ok callK loopK lenL nthL takeL dropL eqBs
theorem g222 (h : Has E 229 fn222) (l : Bs) (c : UInt8) : Gives E 229 [vs' l, vs' [c]] (.bool (decide (l.head? = some c))) := by
 obtain ⟨F, F1, h1⟩ : ∃ F F1, F = F1 + 1 := ⟨1, 0, rfl⟩
 refine h.gives2 F (show 2 ≤ 18 by omega) ?_
 cases l with
 | nil =>
  have e1 : leIK (Int.ofNat (lenL [c])) (Int.ofNat (lenL ([] : Bs))) = false := by rw [lenL_eq, lenL_eq]; rfl
  conv => arg 2; whnf
  repeat ((first | refine Ok.F ?_); conv => arg 2; whnf)
  exact Ok.eqB rfl
 | cons d r =>
  have e1 : leIK (Int.ofNat (lenL [c])) (Int.ofNat (lenL (d :: r))) = true := by rw [lenL_eq, lenL_eq]; exact leIK_tt (by show (1 : Int) ≤ ((r.length + 1 : Nat) : Int); omega)
  have e2 : leIK 0 (Int.ofNat (lenL [c])) = true := by rw [lenL_eq]; rfl
  have x1 : takeL (Nat.sub (toN (Int.ofNat (lenL [c]))) (toN 0)) (dropL (toN 0) (d :: r)) = [d] := by
   rw [lenL_eq, takeL_eq, dropL_eq, toN_eq, toN_eq]; rfl
  conv => arg 2; whnf
  repeat ((first | refine Ok.T ?_); conv => arg 2; whnf)
  refine Ok.eqB (show eqBs (takeL (Nat.sub (toN (Int.ofNat (lenL [c]))) (toN 0)) (dropL (toN 0) (d :: r))) [c] = _ from ?_)
  rw [x1]
  by_cases hd : d = c
  ·rw [eqB_t (by rw [hd])]; simp [hd]
  ·rw [eqB_f (by simpa using hd)]; simp [hd]
theorem g151 (h : Has E 145 fn151) (h222 : E.nat.get 229 = some tPre1) {l : Bs} (hl : l.length ≤ 100000) (c : UInt8) : Gives E 145 [vs' l, vs' [c]] (.bool (decide (l.head? = some c))) := by
 obtain ⟨F, F1, h1⟩ : ∃ F F1, F = F1 + 1 := ⟨1, 0, rfl⟩
 refine h.gives2 F (show 2 ≤ 8 by omega) ?_
 conv => arg 2; whnf
 refine Ok.opt (callK_natE h222 h1 (s1T_at hl) _ _) ?_
 conv => arg 2; whnf
 exact Ok.eqB rfl
end
def formV (k : Bs) : V := match formS k with
 | some (n, t) => .tup [.agg [vi n, .bool t], .bool true]
 | none => .tup [.agg [vi 0, .bool false], .bool false]
def formEs : List (ByteArray × V) := [(bs kDraw, .agg [vi 1, .bool true]), (bs kBranch, .agg [vi 2, .bool false]), (bs kMerge, .agg [vi 2, .bool false]), (bs kNote, .agg [vi 0, .bool true]), (bs kUndo, .agg [vi 0, .bool false])]
theorem findS_cons (s : ByteArray) (k : ByteArray) (v : V) (r : List (ByteArray × V)) (h : s.data.toList ≠ k.data.toList) : findS s ((k, v) :: r) = findS s r := by
 show (bif s.data.toList == k.data.toList then some v else findS s r) = _
 rw [show (s.data.toList == k.data.toList) = false from beq_eq_false_iff_ne.2 h]; rfl
section
variable {E : Env'} {Q : V → Mem → Nat → Prop}
attribute [local irreducible] Ok callK loopK lenL nthL takeL dropL eqBs
theorem g46 (h : Has E 65 fn46) (k : Bs) : Gives E 65 [vs' k] (formV k) := by
 obtain ⟨F, F1, h1⟩ : ∃ F F1, F = F1 + 1 := ⟨1, 0, rfl⟩
 refine h.gives2 F (show 1 ≤ 20 by omega) ?_
 by_cases q1 : k = kDraw
 ·subst q1
  conv => arg 2; whnf
  exact Ok.eq rfl
 by_cases q2 : k = kBranch
 ·subst q2
  conv => arg 2; whnf
  exact Ok.eq rfl
 by_cases q3 : k = kMerge
 ·subst q3
  conv => arg 2; whnf
  exact Ok.eq rfl
 by_cases q4 : k = kNote
 ·subst q4
  conv => arg 2; whnf
  exact Ok.eq rfl
 by_cases q5 : k = kUndo
 ·subst q5
  conv => arg 2; whnf
  exact Ok.eq rfl
 have hf : findS (bs k) formEs = none := by
  unfold formEs
  rw [findS_cons _ _ _ _ q1, findS_cons _ _ _ _ q2, findS_cons _ _ _ _ q3, findS_cons _ _ _ _ q4, findS_cons _ _ _ _ q5]; rfl
 have hv : formV k = .tup [.agg [vi 0, .bool false], .bool false] := by
  unfold formV formS; rw [if_neg q1, if_neg q2, if_neg q3, if_neg q4, if_neg q5]
 rw [hv]
 have hc : cellsV ((findS (bs k) formEs).getD (.agg [vi 0, .bool false])) = some [vi 0, .bool false] := by rw [hf]; rfl
 conv => arg 2; whnf
 refine Ok.opt (by exact hc) ?_
 conv => arg 2; whnf
 refine Ok.eq (show V.tup [.agg [vi 0, .bool false], .bool (findS (bs k) formEs).isSome] = _ from ?_)
 rw [hf]; rfl
end
end Go.Fm
set_option maxHeartbeats 8000000
namespace Go.Fm
theorem dec_low {a r : Bs} {c : UInt8} (h : c.toNat < 128) : Utf8.decode (bs (a ++ c :: r)) a.length = (c.toNat, 1) := by
 have hlt : a.length < (bs (a ++ c :: r)).size := by show a.length < (a ++ c :: r).length; simp
 have hc : (bs (a ++ c :: r))[a.length]'hlt = c := by
  show (a ++ c :: r)[a.length]'(by simp) = c
  simp
 have := decode_ascii (bs (a ++ c :: r)) a.length hlt (by rw [hc]; exact h)
 rw [this, hc]
theorem dec_high {a r : Bs} {c : UInt8} (h : 128 ≤ c.toNat) : 128 ≤ (Utf8.decode (bs (a ++ c :: r)) a.length).1 := by
 have hlt : a.length < (bs (a ++ c :: r)).size := by show a.length < (a ++ c :: r).length; simp
 have hc : (bs (a ++ c :: r))[a.length]'hlt = c := by
  show (a ++ c :: r)[a.length]'(by simp) = c
  simp
 exact (decode_high (bs (a ++ c :: r)) a.length hlt (by rw [hc]; exact h)).1
theorem bltT {i n : Nat} (h : i < n) : Nat.blt i n = true := Nat.ble_eq_true_of_le h
theorem bltF {i n : Nat} (h : n ≤ i) : Nat.blt i n = false := by
 cases hb : Nat.blt i n with
 | false => rfl
 | true => have : i + 1 ≤ n := nLb hb; omega
theorem get_lt' {α : Type} {d : Nat} {t : Tr d α} {k : Nat} {v : α} (h : t.get k = some v) : k < 8 ^ d :=
 haveI : Ctx := { site := fun _ => none, views := fun _ => [], meths := fun _ => [], gl := [] }
 Tr.get_lt h
section
variable {Q : V → Mem → Nat → Prop} {k : V × Mem × Nat → A} {t : Tr 3 V} {m : Mem} {n : Nat} {x : X}
theorem Ok.next {id : Nat} {s : ByteArray} {pos : Nat} (hx : val t x = .ptr id 0) (hm : m.get id = some (.iter s pos)) (hlt : pos < s.size)
  (hk : ∀ m', (∀ j, m'.get j = if j = id then some (.iter s (pos + (Utf8.decode s pos).2)) else m.get j) → Ok Q (k (.tup [.bool true, .int .i64 pos, .int .i32 (Utf8.decode s pos).1], m', n))) : Ok Q (Option.rec (motive := fun _ => A) none k (evM (.next x) t m n)) := by
 obtain ⟨m', hs⟩ := Tr.set_ok (f := fuel) (get_lt' hm) m (some (B.iter s (pos + (Utf8.decode s pos).2)))
 have e : evM (.next x) t m n = some (.tup [.bool true, .int .i64 pos, .int .i32 (Utf8.decode s pos).1], m', n) := by
  simp only [evM, hx, hm, bltT hlt, cond_true, hs, Option.map_some]
 rw [e]
 exact hk m' (Tr.get_set hs)
theorem Ok.nextE {id : Nat} {s : ByteArray} {pos : Nat} (hx : val t x = .ptr id 0) (hm : m.get id = some (.iter s pos)) (hlt : s.size ≤ pos) (hk : Ok Q (k (.tup [.bool false], m, n))) : Ok Q (Option.rec (motive := fun _ => A) none k (evM (.next x) t m n)) := by
 have e : evM (.next x) t m n = some (.tup [.bool false], m, n) := by
  simp only [evM, hx, hm, bltF hlt, cond_false]
 rw [e]; exact hk
theorem Ok.range {s : ByteArray} (hx : val t x = .str s) (hn : n < 262144) (hk : ∀ m', (∀ j, m'.get j = if j = n then some (.iter s 0) else m.get j) → Ok Q (k (.ptr n 0, m', n + 1))) : Ok Q (Option.rec (motive := fun _ => A) none k (evM (.range x) t m n)) := by
 obtain ⟨m', hs⟩ := Tr.set_ok (d := 6) (f := fuel) (k := n) (by rw [show (8 : Nat) ^ 6 = 262144 by decide]; exact hn) m (some (B.iter s 0))
 have e : evM (.range x) t m n = some (.ptr n 0, m', n + 1) := by
  simp only [evM, hx, asStr, Option.bind_some, newK, hs, Option.map_some]
 rw [e]; exact hk m' (Tr.get_set hs)
end
def tDig32 : List V → Option V
 | [.int .i32 c] => some (.bool (decide (48 ≤ c) && decide (c ≤ 57)))
 | _ => none
theorem tDig32_low {c : UInt8} : tDig32 [.int .i32 ((c.toNat : Nat) : Int)] = some (.bool (digB c)) := by
 show some (V.bool (decide ((48 : Int) ≤ (c.toNat : Int)) && decide ((c.toNat : Int) ≤ 57))) = _
 have e1 : decide ((48 : Int) ≤ (c.toNat : Int)) = decide (48 ≤ c.toNat) := decide_eq_decide.2 (by omega)
 have e2 : decide ((c.toNat : Int) ≤ 57) = decide (c.toNat ≤ 57) := decide_eq_decide.2 (by omega)
 rw [e1, e2]; rfl
theorem tDig32_high {x : Nat} (h : 128 ≤ x) : tDig32 [.int .i32 (x : Int)] = some (.bool false) := by
 show some (V.bool (decide ((48 : Int) ≤ (x : Int)) && decide ((x : Int) ≤ 57))) = _
 rw [decide_eq_false (show ¬ (x : Int) ≤ 57 by omega), Bool.and_false]
section
variable {E : Env'} {Q : V → Mem → Nat → Prop}
attribute [local irreducible] Ok callK loopK lenL nthL takeL dropL eqBs wrapK evM getM putM
theorem g125 (h : Has E 75 fn125) (c : Int) : Gives E 75 [.int .i32 c] (.bool (decide (48 ≤ c) && decide (c ≤ 57))) := by
 obtain ⟨F, F1, h1⟩ : ∃ F F1, F = F1 + 1 := ⟨1, 0, rfl⟩
 refine h.gives2 F (show 1 ≤ 9 by omega) ?_
 by_cases h1 : 48 ≤ c
 ·have e1 := leIK_tt h1
  conv => arg 2; whnf
  repeat ((first | refine Ok.T ?_); conv => arg 2; whnf)
  refine Ok.eqB ?_
  rw [show decide (48 ≤ c) = true from decide_eq_true h1, ← leIK_dec]; rfl
 ·have e1 := leIK_ff (show c < 48 by omega)
  conv => arg 2; whnf
  repeat ((first | refine Ok.F ?_); conv => arg 2; whnf)
  refine Ok.eqB ?_
  rw [show decide (48 ≤ c) = false from decide_eq_false h1]; rfl
theorem run_loop (h125 : E.nat.get 75 = some tDig32) {fu fu1 : Nat} (hfu : fu = fu1 + 1) {kN kR : KKN} {kE : Nat → KKN} {n : Nat} {fi : List FI} : ∀ (r a : Bs) (k : Nat) (t : Tr 3 V) (m : Mem), r.length < k →
  t.get 0 = some (vs' (a ++ r)) → t.get 1 = some (.fn (.func 75) [] []) → t.get 8 = some (.ptr 0 0) → m.get 0 = some (.iter (bs (a ++ r)) a.length) →
  (∀ t' m', r.all digB = false → t'.get 4 = some (vi (a ++ r.takeWhile digB).length) → Ok Q (kR t' m' n fi)) →
  (∀ t' m', r.all digB = true → t'.get 0 = some (vs' (a ++ r)) → Ok Q (kE 0 t' m' n fi)) →
  Ok Q (loopK (comp E bd124).run fu (callK E fu) kN kE kR k t m n fi) := by
 intro r
 induction r with
 | nil =>
  intro a k t m hk t0 t1 t8 hm h1 h2
  obtain ⟨k, rfl⟩ : ∃ k', k = k' + 1 := ⟨k - 1, by omega⟩
  rw [loopK_succ]
  obtain ⟨f_t, rfl⟩ := mkT_form [(0, _), (1, _), (8, _)] ⟨t0, t1, t8, trivial⟩
  conv => arg 2; whnf
  refine Ok.nextE rfl hm (by show (a ++ []).length ≤ a.length; simp) ?_
  conv => arg 2; whnf
  exact h2 _ _ rfl rfl
 | cons c r ih =>
  intro a k t m hk t0 t1 t8 hm h1 h2
  obtain ⟨k, rfl⟩ : ∃ k', k = k' + 1 := ⟨k - 1, by omega⟩
  rw [loopK_succ]
  simp only [List.length_cons] at hk
  obtain ⟨f_t, rfl⟩ := mkT_form [(0, _), (1, _), (8, _)] ⟨t0, t1, t8, trivial⟩
  by_cases hc : c.toNat < 128
  ·have hd := dec_low (a := a) (r := r) hc
   cases hdg : digB c with
   | true =>
    have e125 : tDig32 [.int .i32 ((c.toNat : Nat) : Int)] = some (.bool true) := by rw [tDig32_low, hdg]
    conv => arg 2; whnf
    refine Ok.next rfl hm (by show a.length < (a ++ c :: r).length; simp) ?_
    rw [hd]
    intro m' hm'
    conv => arg 2; whnf
    refine Ok.N h125 hfu e125 ?_
    conv => arg 2; whnf
    refine ih (a ++ [c]) k _ m' (by omega) (res_str (by simp)) rfl rfl (by rw [hm', if_pos rfl]; simp) ?_ ?_
    ·intro t' m'' q e4
     exact h1 t' m'' (by simp [q]) (by rw [e4]; simp [hdg])
    ·intro t' m'' q e0
     exact h2 t' m'' (by simp [q, hdg]) (by rw [e0]; simp)
   | false =>
    have e125 : tDig32 [.int .i32 ((c.toNat : Nat) : Int)] = some (.bool false) := by rw [tDig32_low, hdg]
    conv => arg 2; whnf
    refine Ok.next rfl hm (by show a.length < (a ++ c :: r).length; simp) ?_
    rw [hd]
    intro m' hm'
    conv => arg 2; whnf
    refine Ok.N h125 hfu e125 ?_
    conv => arg 2; whnf
    exact h1 _ _ (by simp [hdg]) (res_int (by simp [hdg]))
  ·have hd := dec_high (a := a) (r := r) (c := c) (by omega)
   have hdg : digB c = false := by unfold digB; rw [decide_eq_false (show ¬ c.toNat ≤ 57 by omega), Bool.and_false]
   have e125 := tDig32_high hd
   conv => arg 2; whnf
   refine Ok.next rfl hm (by show a.length < (a ++ c :: r).length; simp) ?_
   intro m' hm'
   conv => arg 2; whnf
   refine Ok.N h125 hfu e125 ?_
   conv => arg 2; whnf
   exact h1 _ _ (by simp [hdg]) (res_int (by simp [hdg]))
end
def intV (l : Bs) : V := if isIntS l = true then .tup [vi (intS l), .bool true] else .tup [vi 0, .bool false]
def tAtoi : List V → Option V
 | [.str s] => if isIntS s.data.toList = true then some (.tup [vi (intS s.data.toList), .nili]) else none
 | _ => none
theorem tAtoi_at {l : Bs} (h : isIntS l = true) : tAtoi [vs' l] = some (.tup [vi (intS l), .nili]) := by
 show (if isIntS l = true then some (V.tup [vi (intS l), .nili]) else none) = _
 rw [if_pos h]
theorem takeWhile_lt {l : Bs} (h : l.all digB = false) : (l.takeWhile digB).length < l.length := by
 induction l with
 | nil => simp at h
 | cons c r ih =>
  simp only [List.all_cons] at h
  cases hc : digB c with
  | true =>
   rw [hc, Bool.true_and] at h
   simp [hc]; exact ih h
  | false => simp [hc]
theorem isIntS_no {l : Bs} (h : l = [] ∨ 9 < l.length ∨ l.all digB = false ∨ (l.head? = some 48 ∧ l.length ≠ 1)) : isIntS l = false := by
 unfold isIntS
 rcases h with h | h | h | h
 ·simp [h]
 ·rw [decide_eq_false (by omega)]; simp
 ·rw [h]; simp
 ·rw [h.1]; simp [h.2]
section
variable {E : Env'} {Q : V → Mem → Nat → Prop}
attribute [local irreducible] Ok callK loopK lenL nthL takeL dropL eqBs wrapK evM getM putM
theorem g53 (h : Has E 32 fn53) (h124 : Has E 74 fn124) (h125 : E.nat.get 75 = some tDig32) (h126 : E.nat.get 76 = some tAtoi) {l : Bs} (hl : l.length ≤ 100000) : Gives E 32 [vs' l] (intV l) := by
 obtain ⟨F, F1, F2, h1, h2, hb⟩ : ∃ F F1 F2, F = F1 + 1 ∧ F1 = F2 + 1 ∧ l.length < F1 := ⟨l.length + 2, l.length + 1, l.length, rfl, rfl, by omega⟩
 refine h.gives2 F (show 1 ≤ 35 by omega) ?_
 cases l with
 | nil =>
  have e0 : eqBs ([] : Bs) [] = true := eqB_t rfl
  have hv : intV [] = .tup [vi 0, .bool false] := rfl
  rw [hv]
  conv => arg 2; whnf
  repeat ((first | refine Ok.T ?_); conv => arg 2; whnf)
  exact Ok.eq rfl
 | cons c r =>
  have e0 : eqBs (c :: r) [] = false := eqB_f (by simp)
  by_cases h9 : 9 < (c :: r).length
  ·have e1 : ltIK 9 (Int.ofNat (lenL (c :: r))) = true := by rw [lenL_eq]; exact ltIK_tt (by show (9 : Int) < ((c :: r).length : Int); omega)
   have hv : intV (c :: r) = .tup [vi 0, .bool false] := by unfold intV; rw [isIntS_no (.inr (.inl h9))]; rfl
   rw [hv]
   conv => arg 2; whnf
   repeat ((first | refine Ok.T ?_ | refine Ok.F ?_); conv => arg 2; whnf)
   exact Ok.eq rfl
  ·have e1 : ltIK 9 (Int.ofNat (lenL (c :: r))) = false := by rw [lenL_eq]; exact ltIK_ff (by show ((c :: r).length : Int) ≤ 9; omega)
   conv => arg 2; whnf
   repeat ((first | refine Ok.F ?_ | refine Ok.callE h124 h1 (show 2 ≤ 20 by omega) ?_); conv => arg 2; whnf)
   refine Ok.range rfl (by omega) ?_
   intro m' hm'
   conv => arg 2; whnf
   refine run_loop (E := E) h125 h2 (c :: r) [] _ _ _ hb rfl rfl rfl (by rw [hm', if_pos rfl]; rfl) ?_ ?_
   ·intro t' m'' hall t'4
    rw [List.nil_append] at t'4
    have hv : intV (c :: r) = .tup [vi 0, .bool false] := by unfold intV; rw [isIntS_no (.inr (.inr (.inl hall)))]; rfl
    have e2 : ltIK (((c :: r).takeWhile digB).length : Int) (Int.ofNat (lenL (c :: r))) = true := lt_t (takeWhile_lt hall)
    obtain ⟨f_tp, rfl⟩ := mkT_form [(4, _)] ⟨t'4, trivial⟩
    conv => arg 2; whnf
    repeat ((first | refine Ok.T ?_ | refine Ok.F ?_ | refine Ok.ret ?_); conv => arg 2; whnf)
    exact Ok.eq hv.symm
   ·intro t' m'' hall t'0
    rw [List.nil_append] at t'0
    have e2 : ltIK (Int.ofNat (lenL (c :: r))) (Int.ofNat (lenL (c :: r))) = false := ltIK_ff (Int.le_refl _)
    have en : nthL (c :: r) 0 = some c := by rw [nthL_eq]; rfl
    obtain ⟨f_tp, rfl⟩ := mkT_form [(0, _)] ⟨t'0, trivial⟩
    by_cases hc : c = 48
    ·have e3 := u8_t (c := c) (k := 48) (by rw [hc]; rfl)
     by_cases hr : r = []
     ·have e4 : (nB (eqBs (c :: r) [48])) = false := by rw [eqB_t (by rw [hc, hr])]
      have hi : isIntS (c :: r) = true := by rw [hc, hr]; decide
      have hv : intV (c :: r) = .tup [vi (intS (c :: r)), .bool true] := by unfold intV; rw [if_pos hi]
      conv => arg 2; whnf
      repeat ((first | refine Ok.T ?_ | refine Ok.F ?_ | refine Ok.ret ?_ | refine Ok.opt (by with_reducible exact en) ?_ | refine Ok.opt (callK_natE h126 h1 (tAtoi_at hi) _ _) ?_); conv => arg 2; whnf)
      exact Ok.eq hv.symm
     ·have e4 : (nB (eqBs (c :: r) [48])) = true := by rw [eqB_f (by simp [hr])]
      have hv : intV (c :: r) = .tup [vi 0, .bool false] := by unfold intV; rw [isIntS_no (.inr (.inr (.inr ⟨by simp [hc], by simp [hr]⟩)))]; rfl
      conv => arg 2; whnf
      repeat ((first | refine Ok.T ?_ | refine Ok.F ?_ | refine Ok.ret ?_ | refine Ok.opt (by with_reducible exact en) ?_); conv => arg 2; whnf)
      exact Ok.eq hv.symm
    ·have e3 := u8_f (c := c) (k := 48) (u8_ne hc)
     have hi : isIntS (c :: r) = true := by unfold isIntS; rw [hall, decide_eq_true (by omega)]; simp [hc]
     have hv : intV (c :: r) = .tup [vi (intS (c :: r)), .bool true] := by unfold intV; rw [if_pos hi]
     conv => arg 2; whnf
     repeat ((first | refine Ok.F ?_ | refine Ok.ret ?_ | refine Ok.opt (by with_reducible exact en) ?_ | refine Ok.opt (callK_natE h126 h1 (tAtoi_at hi) _ _) ?_); conv => arg 2; whnf)
     exact Ok.eq hv.symm
end
end Go.Fm
set_option maxHeartbeats 8000000
namespace Go.Fm
theorem Ok.toB {Q : V → Mem → Nat → Prop} {k : V × Mem × Nat → A} {t : Tr 3 V} {m : Mem} {n : Nat} {x : X} {s : ByteArray} (hx : val t x = .str s) (hn : n < 262144) (hk : ∀ m', (∀ j, m'.get j = if j = n then some (.ro (bytesL s)) else m.get j) → Ok Q (k (.sl n 0 s.size none 1, m', n + 1))) : Ok Q (Option.rec (motive := fun _ => A) none k (evM (.toB x) t m n)) := by
 obtain ⟨m', hs⟩ := Tr.set_ok (d := 6) (f := fuel) (k := n) (by rw [show (8 : Nat) ^ 6 = 262144 by decide]; exact hn) m (some (B.ro (bytesL s)))
 have e : evM (.toB x) t m n = some (.sl n 0 s.size none 1, m', n + 1) := by
  simp only [evM, hx, asStr, Option.bind_some, newK, hs, Option.map_some]
 rw [e]; exact hk m' (Tr.get_set hs)
theorem cut_byte {a r : Bs} {c : UInt8} : cutK (Nat.add 0 (Nat.mul a.length 1)) 1 (bytesL (bs (a ++ c :: r))) = some [.int .u8 (Int.ofNat c.toNat)] := by
 have e : Nat.add 0 (Nat.mul a.length 1) = a.length := by show 0 + a.length * 1 = _; omega
 have eb : bytesL (bs (a ++ c :: r)) = (a.map fun b => V.int .u8 b.toNat) ++ V.int .u8 c.toNat :: (r.map fun b => V.int .u8 b.toNat) := by
  show (a ++ c :: r).map _ = _
  rw [List.map_append, List.map_cons]
 rw [e, cutK_eq, eb, if_pos (by simp)]
 unfold cut
 rw [List.drop_append_of_le_length (by simp), List.drop_of_length_le (by simp)]
 rfl
section
variable {E : Env'} {Q : V → Mem → Nat → Prop}
attribute [local irreducible] Ok callK loopK lenL nthL takeL dropL eqBs wrapK evM getM putM
theorem csum_loop {fu : Nat} {call : CE} {kN kR : KKN} {kE : Nat → KKN} {m : Mem} {n : Nat} {fi : List FI} {L : Nat} {l : Bs} (hL : l.length = L) (hL2 : L ≤ 100000) (hm : m.get 0 = some (.ro (bytesL (bs l)))) : ∀ (r a : Bs) (k : Nat) (t : Tr 3 V), r.length < k → a ++ r = l →
  t.get 3 = some (vi (sumS a)) → t.get 7 = some (.sl 0 0 L none 1) → t.get 8 = some (.int .i64 (Int.ofNat L)) → t.get 9 = some (vi a.length) →
  (∀ t', t'.get 3 = some (vi (sumS l)) → Ok Q (kE 0 t' m n fi)) →
  Ok Q (loopK (comp E bd54).run fu call kN kE kR k t m n fi) := by
 intro r
 induction r with
 | nil =>
  intro a k t hk hl t3 t7 t8 t9 h2
  obtain ⟨k, rfl⟩ : ∃ k', k = k' + 1 := ⟨k - 1, by omega⟩
  rw [loopK_succ]
  rw [List.append_nil] at hl
  subst hl
  have e1 : ltIK (a.length : Int) (Int.ofNat L) = false := ltIK_ff (by show (L : Int) ≤ (a.length : Int); omega)
  obtain ⟨f_t, rfl⟩ := mkT_form [(3, _), (7, _), (8, _), (9, _)] ⟨t3, t7, t8, t9, trivial⟩
  conv => arg 2; whnf
  repeat ((first | refine Ok.F ?_); conv => arg 2; whnf)
  exact h2 _ rfl
 | cons c r ih =>
  intro a k t hk hl t3 t7 t8 t9 h2
  obtain ⟨k, rfl⟩ : ∃ k', k = k' + 1 := ⟨k - 1, by omega⟩
  rw [loopK_succ]
  simp only [List.length_cons] at hk
  have hlen : a.length + (r.length + 1) = L := by rw [← hL, ← hl]; simp
  have e1 : ltIK (a.length : Int) (Int.ofNat L) = true := ltIK_tt (by show (a.length : Int) < (L : Int); omega)
  have e2 : Nat.blt a.length L = true := bltT (by omega)
  have hm' := hm
  rw [← hl] at hm'
  have ec := cut_byte (a := a) (r := r) (c := c)
  obtain ⟨f_t, rfl⟩ := mkT_form [(3, _), (7, _), (8, _), (9, _)] ⟨t3, t7, t8, t9, trivial⟩
  conv => arg 2; whnf
  repeat ((first | refine Ok.T ?_); conv => arg 2; whnf)
  refine Ok.getM hm' (by omega) ?_
  conv => arg 2; whnf
  refine Ok.opt (by exact ec) ?_
  conv => arg 2; whnf
  refine ih (a ++ [c]) k _ (by omega) (by rw [← hl]; simp) (res_int ((sum_step (sum_lt a)).trans (by rw [sum_snoc]))) rfl rfl (res_int (wrap1' (a := a) (c := c) (show a.length ≤ 1000000000 by omega))) h2
theorem g54 (h : Has E 33 fn54) (h69 : E.nat.get 77 = some tFromInt) {l : Bs} (hl : l.length ≤ 100000) : Gives E 33 [vs' l] (vs' (Lib.decDigits (sumS l))) := by
 obtain ⟨F, F1, h1, hb⟩ : ∃ F F1, F = F1 + 1 ∧ l.length < F := ⟨l.length + 1, l.length, rfl, by omega⟩
 refine h.gives2 F (show 1 ≤ 22 by omega) ?_
 obtain ⟨L, hL⟩ : ∃ L, l.length = L := ⟨_, rfl⟩
 conv => arg 2; whnf
 refine Ok.toB rfl (by omega) ?_
 intro m' hm'
 rw [show (bs l).size = L from hL]
 conv => arg 2; whnf
 refine csum_loop (E := E) hL (by omega) (by rw [hm', if_pos rfl]) l [] _ _ hb rfl rfl rfl rfl rfl ?_
 intro t' t'3
 obtain ⟨f_tp, rfl⟩ := mkT_form [(3, _)] ⟨t'3, trivial⟩
 conv => arg 2; whnf
 refine Ok.opt (callK_natE h69 h1 (tFromInt_at (show sumS l < 1000000000 by have := sum_lt l; omega)) _ _) ?_
 conv => arg 2; whnf
 exact Ok.eqS rfl
end
end Go.Fm
set_option maxHeartbeats 8000000
namespace Go.Fm
def tForm : List V → Option V := sT formV
theorem tForm_at {k : Bs} {n : Nat} {t : Bool} (h : formS k = some (n, t)) (hl : k.length ≤ 100000) : tForm [vs' k] = some (.tup [.agg [vi n, .bool t], .bool true]) := by
 unfold tForm; rw [sT_at hl]; unfold formV; rw [h]
theorem tForm_no {k : Bs} (h : formS k = none) (hl : k.length ≤ 100000) : tForm [vs' k] = some (.tup [.agg [vi 0, .bool false], .bool false]) := by
 unfold tForm; rw [sT_at hl]; unfold formV; rw [h]
theorem tCut1_at {c : UInt8} {l a r : Bs} {b : Bool} (h : cutS c l = (a, r, b)) (hl : l.length ≤ 100000) : tCut1 [vs' l, vs' [c]] = some (.tup [vs' a, vs' r, .bool b]) := by
 unfold tCut1; rw [s1T_at hl]; unfold cutV1; rw [h]
theorem form_ne {k : Bs} {f : Nat × Bool} (h : formS k = some f) : k ≠ [] := by
 rintro rfl
 simp [formS] at h
section
variable {E : Env'} {Q : V → Mem → Nat → Prop}
attribute [local irreducible] Ok callK loopK lenL nthL takeL dropL eqBs
theorem g55 (h : Has E 34 fn55) (h127 : Has E 78 fn127) (h19 : E.nat.get 31 = some tCut1) (h46 : E.nat.get 65 = some tForm) (h128 : E.nat.get 79 = some tPlainS) {l : Bs} (hl : l.length ≤ 100000) : ∃ fu, Ok (fun v m _ => PRes (parseP l) v m) (callK E fu (.f 34) [vs' l] .nil 0) := by
 obtain ⟨F, F1, F2, F3, h1, h2, h3⟩ : ∃ F F1 F2 F3, F = F1 + 1 ∧ F1 = F2 + 1 ∧ F2 = F3 + 1 := ⟨3, 2, 1, 0, rfl, rfl, rfl⟩
 refine h.gives3 F (show 1 ≤ 58 by omega) ?_
 obtain ⟨⟨kd, r, mo⟩, hk⟩ : ∃ q, cutS 32 l = q := ⟨_, rfl⟩
 obtain ⟨⟨w, r2, m2⟩, hk2⟩ : ∃ q, cutS 32 r = q := ⟨_, rfl⟩
 obtain ⟨⟨w2, r3, m3⟩, hk3⟩ : ∃ q, cutS 32 r2 = q := ⟨_, rfl⟩
 have hkl := cut_le hk
 have hkl2 := cut_le hk2
 have hkl3 := cut_le hk3
 have e57 := tCut1_at hk hl
 have e57b := tCut1_at hk2 (by omega)
 have e57c := tCut1_at hk3 (by omega)
 obtain ⟨p, hp⟩ : ∃ p, parseP l = p := ⟨_, rfl⟩
 rw [hp]
 unfold parseP parseS at hp
 rw [hk] at hp
 simp only at hp
 cases hf : formS kd with
 | none =>
  have e46 := tForm_no hf (by omega)
  rw [hf] at hp; simp only [Option.bind_none] at hp; subst hp
  by_cases hke : kd = []
  ·have ek := eqB_t hke
   have ekn : (nB (eqBs kd [])) = false := by rw [ek]
   have eknn : (nB (nB (eqBs kd []))) = true := by rw [ek]
   conv => arg 2; whnf
   repeat ((first | refine Ok.T ?_ | refine Ok.F ?_ | refine Ok.callE h127 h1 (show 3 ≤ 21 by omega) ?_ | refine Ok.N h19 h2 e57 ?_ | refine Ok.ret ?_ | refine Ok.N h46 h1 e46 ?_); conv => arg 2; whnf)
   exact Ok.done ⟨.nils, .nil _, rfl⟩
  ·have ek := eqB_f hke
   have ekn : (nB (eqBs kd [])) = true := by rw [ek]
   have eknn : (nB (nB (eqBs kd []))) = false := by rw [ek]
   conv => arg 2; whnf
   repeat ((first | refine Ok.T ?_ | refine Ok.F ?_ | refine Ok.callE h127 h1 (show 3 ≤ 21 by omega) ?_ | refine Ok.N h19 h2 e57 ?_ | refine Ok.ret ?_ | refine Ok.N h46 h1 e46 ?_); conv => arg 2; whnf)
   exact Ok.done ⟨.nils, .nil _, rfl⟩
 | some f =>
  rw [hf] at hp; simp only [Option.bind_some] at hp
  have ek := eqB_f (form_ne hf)
  have ekn : (nB (eqBs kd [])) = true := by rw [ek]
  have eknn : (nB (nB (eqBs kd []))) = false := by rw [ek]
  rcases form_cases hf with rfl | rfl | rfl | rfl
  ·have e46 := tForm_at hf (by omega)
   cases mo with
   | false =>
    have hn := cutS_none (c := 32) (l := l) (by rw [hk])
    rw [hk] at hn
    obtain ⟨_, hn, _⟩ := hn
    simp only at hn; subst hn
    simp only [cutS, pMi] at hk2
    obtain ⟨rfl, rfl, rfl⟩ := hk2
    simp only [wordsS, if_true, Option.bind_none] at hp; subst hp
    conv => arg 2; whnf
    repeat ((first | refine Ok.T ?_ | refine Ok.F ?_ | refine Ok.callE h127 h1 (show 3 ≤ 21 by omega) ?_ | refine Ok.N h19 h2 e57 ?_ | refine Ok.ret ?_ | refine Ok.N h46 h1 e46 ?_ | refine Ok.loop F1 h1 ?_ | refine Ok.N h19 h2 e57b ?_ | refine Ok.loop F2 h2 ?_); conv => arg 2; whnf)
    exact Ok.done ⟨.nils, .nil _, rfl⟩
   | true =>
    simp only [wordsS, hk2, Bool.true_eq_false, if_false] at hp
    by_cases hw : w = []
    ·rw [if_pos hw] at hp; simp only [Option.bind_none] at hp; subst hp
     have e1 := eqB_t hw
     have e1n : (nB (eqBs w [])) = false := by rw [e1]
     have e1nn : (nB (nB (eqBs w []))) = true := by rw [e1]
     cases m2 with
     | false =>
      conv => arg 2; whnf
      repeat ((first | refine Ok.T ?_ | refine Ok.F ?_ | refine Ok.callE h127 h1 (show 3 ≤ 21 by omega) ?_ | refine Ok.N h19 h2 e57 ?_ | refine Ok.ret ?_ | refine Ok.N h46 h1 e46 ?_ | refine Ok.loop F1 h1 ?_ | refine Ok.N h19 h2 e57b ?_ | refine Ok.loop F2 h2 ?_); conv => arg 2; whnf)
      exact Ok.done ⟨.nils, .nil _, rfl⟩
     | true =>
      cases hpl : plainS r2 with
      | none =>
       have e128 := tPlainS_no hpl (by omega)
       conv => arg 2; whnf
       repeat ((first | refine Ok.T ?_ | refine Ok.F ?_ | refine Ok.callE h127 h1 (show 3 ≤ 21 by omega) ?_ | refine Ok.N h19 h2 e57 ?_ | refine Ok.ret ?_ | refine Ok.N h46 h1 e46 ?_ | refine Ok.loop F1 h1 ?_ | refine Ok.N h19 h2 e57b ?_ | refine Ok.loop F2 h2 ?_ | refine Ok.N h128 h1 e128 ?_); conv => arg 2; whnf)
       exact Ok.done ⟨.nils, .nil _, rfl⟩
      | some x =>
       have e128 := tPlainS_at hpl (by omega)
       conv => arg 2; whnf
       repeat ((first | refine Ok.T ?_ | refine Ok.F ?_ | refine Ok.callE h127 h1 (show 3 ≤ 21 by omega) ?_ | refine Ok.N h19 h2 e57 ?_ | refine Ok.ret ?_ | refine Ok.N h46 h1 e46 ?_ | refine Ok.loop F1 h1 ?_ | refine Ok.N h19 h2 e57b ?_ | refine Ok.loop F2 h2 ?_ | refine Ok.N h128 h1 e128 ?_); conv => arg 2; whnf)
       exact Ok.done ⟨.nils, .nil _, rfl⟩
    ·rw [if_neg hw] at hp; simp only [Option.map_some, Option.bind_some, if_true] at hp
     have e1 := eqB_f hw
     have e1n : (nB (eqBs w [])) = true := by rw [e1]
     have e1nn : (nB (nB (eqBs w []))) = false := by rw [e1]
     cases m2 with
     | false =>
      simp only [Bool.false_eq_true, if_false] at hp; subst hp
      conv => arg 2; whnf
      repeat ((first | refine Ok.T ?_ | refine Ok.F ?_ | refine Ok.callE h127 h1 (show 3 ≤ 21 by omega) ?_ | refine Ok.N h19 h2 e57 ?_ | refine Ok.ret ?_ | refine Ok.N h46 h1 e46 ?_ | refine Ok.loop F1 h1 ?_ | refine Ok.N h19 h2 e57b ?_ | refine Ok.loop F2 h2 ?_); conv => arg 2; whnf)
      exact Ok.done ⟨.nils, .nil _, rfl⟩
     | true =>
      simp only [if_true] at hp
      cases hpl : plainS r2 with
      | none =>
       rw [hpl] at hp; simp only [Option.map_none] at hp; subst hp
       have e128 := tPlainS_no hpl (by omega)
       conv => arg 2; whnf
       repeat ((first | refine Ok.T ?_ | refine Ok.F ?_ | refine Ok.callE h127 h1 (show 3 ≤ 21 by omega) ?_ | refine Ok.N h19 h2 e57 ?_ | refine Ok.ret ?_ | refine Ok.N h46 h1 e46 ?_ | refine Ok.loop F1 h1 ?_ | refine Ok.N h19 h2 e57b ?_ | refine Ok.loop F2 h2 ?_ | refine Ok.N h128 h1 e128 ?_); conv => arg 2; whnf)
       exact Ok.done ⟨.nils, .nil _, rfl⟩
      | some x =>
       rw [hpl] at hp; simp only [Option.map_some] at hp; subst hp
       have e128 := tPlainS_at hpl (by omega)
       conv => arg 2; whnf
       repeat ((first | refine Ok.T ?_ | refine Ok.F ?_ | refine Ok.callE h127 h1 (show 3 ≤ 21 by omega) ?_ | refine Ok.N h19 h2 e57 ?_ | refine Ok.ret ?_ | refine Ok.N h46 h1 e46 ?_ | refine Ok.loop F1 h1 ?_ | refine Ok.N h19 h2 e57b ?_ | refine Ok.loop F2 h2 ?_ | refine Ok.N h128 h1 e128 ?_); conv => arg 2; whnf)
       exact Ok.done ⟨_, .inr ⟨by simp, _, rfl, rfl⟩, rfl⟩
  ·have e46 := tForm_at hf (by omega)
   cases mo with
   | false =>
    have hn := cutS_none (c := 32) (l := l) (by rw [hk])
    rw [hk] at hn
    obtain ⟨_, hn, _⟩ := hn
    simp only at hn; subst hn
    simp only [cutS, pMi] at hk2
    obtain ⟨rfl, rfl, rfl⟩ := hk2
    simp only [cutS, pMi] at hk3
    obtain ⟨rfl, rfl, rfl⟩ := hk3
    simp only [wordsS, if_true, Option.bind_none] at hp; subst hp
    conv => arg 2; whnf
    repeat ((first | refine Ok.T ?_ | refine Ok.F ?_ | refine Ok.callE h127 h1 (show 3 ≤ 21 by omega) ?_ | refine Ok.N h19 h2 e57 ?_ | refine Ok.ret ?_ | refine Ok.N h46 h1 e46 ?_ | refine Ok.loop F1 h1 ?_ | refine Ok.N h19 h2 e57b ?_ | refine Ok.loop F2 h2 ?_ | refine Ok.N h19 h2 e57c ?_ | refine Ok.loop F3 h3 ?_); conv => arg 2; whnf)
    exact Ok.done ⟨.nils, .nil _, rfl⟩
   | true =>
    simp only [wordsS, hk2, Bool.true_eq_false, if_false] at hp
    cases m2 with
    | false =>
     have hn := cutS_none (c := 32) (l := r) (by rw [hk2])
     rw [hk2] at hn
     obtain ⟨_, hn, _⟩ := hn
     simp only at hn; subst hn
     simp only [cutS, pMi] at hk3
     obtain ⟨rfl, rfl, rfl⟩ := hk3
     have hp' : p = (ev0, false) := by
      rw [← hp]; by_cases hw : w = [] <;> simp [hw]
     subst hp'
     by_cases hw : w = []
     ·skip
      have e1 := eqB_t hw
      have e1n : (nB (eqBs w [])) = false := by rw [e1]
      have e1nn : (nB (nB (eqBs w []))) = true := by rw [e1]
      conv => arg 2; whnf
      repeat ((first | refine Ok.T ?_ | refine Ok.F ?_ | refine Ok.callE h127 h1 (show 3 ≤ 21 by omega) ?_ | refine Ok.N h19 h2 e57 ?_ | refine Ok.ret ?_ | refine Ok.N h46 h1 e46 ?_ | refine Ok.loop F1 h1 ?_ | refine Ok.N h19 h2 e57b ?_ | refine Ok.loop F2 h2 ?_ | refine Ok.N h19 h2 e57c ?_ | refine Ok.loop F3 h3 ?_); conv => arg 2; whnf)
      exact Ok.done ⟨.nils, .nil _, rfl⟩
     ·skip
      have e1 := eqB_f hw
      have e1n : (nB (eqBs w [])) = true := by rw [e1]
      have e1nn : (nB (nB (eqBs w []))) = false := by rw [e1]
      conv => arg 2; whnf
      repeat ((first | refine Ok.T ?_ | refine Ok.F ?_ | refine Ok.callE h127 h1 (show 3 ≤ 21 by omega) ?_ | refine Ok.N h19 h2 e57 ?_ | refine Ok.ret ?_ | refine Ok.N h46 h1 e46 ?_ | refine Ok.loop F1 h1 ?_ | refine Ok.N h19 h2 e57b ?_ | refine Ok.loop F2 h2 ?_ | refine Ok.N h19 h2 e57c ?_ | refine Ok.loop F3 h3 ?_); conv => arg 2; whnf)
      exact Ok.done ⟨.nils, .nil _, rfl⟩
    | true =>
     simp only [hk3, Bool.true_eq_false, if_false] at hp
     by_cases hw : w = []
     ·skip
      have e1 := eqB_t hw
      have e1n : (nB (eqBs w [])) = false := by rw [e1]
      have e1nn : (nB (nB (eqBs w []))) = true := by rw [e1]
      by_cases hw2 : w2 = []
      ·skip
       have e2 := eqB_t hw2
       have e2n : (nB (eqBs w2 [])) = false := by rw [e2]
       have e2nn : (nB (nB (eqBs w2 []))) = true := by rw [e2]
       have hp' : p = (ev0, false) := by
        rw [← hp]; simp [hw, hw2]
       subst hp'
       cases m3
       ·skip
        conv => arg 2; whnf
        repeat ((first | refine Ok.T ?_ | refine Ok.F ?_ | refine Ok.callE h127 h1 (show 3 ≤ 21 by omega) ?_ | refine Ok.N h19 h2 e57 ?_ | refine Ok.ret ?_ | refine Ok.N h46 h1 e46 ?_ | refine Ok.loop F1 h1 ?_ | refine Ok.N h19 h2 e57b ?_ | refine Ok.loop F2 h2 ?_ | refine Ok.N h19 h2 e57c ?_ | refine Ok.loop F3 h3 ?_); conv => arg 2; whnf)
        exact Ok.done ⟨.nils, .nil _, rfl⟩
       ·skip
        conv => arg 2; whnf
        repeat ((first | refine Ok.T ?_ | refine Ok.F ?_ | refine Ok.callE h127 h1 (show 3 ≤ 21 by omega) ?_ | refine Ok.N h19 h2 e57 ?_ | refine Ok.ret ?_ | refine Ok.N h46 h1 e46 ?_ | refine Ok.loop F1 h1 ?_ | refine Ok.N h19 h2 e57b ?_ | refine Ok.loop F2 h2 ?_ | refine Ok.N h19 h2 e57c ?_ | refine Ok.loop F3 h3 ?_); conv => arg 2; whnf)
        exact Ok.done ⟨.nils, .nil _, rfl⟩
      ·skip
       have e2 := eqB_f hw2
       have e2n : (nB (eqBs w2 [])) = true := by rw [e2]
       have e2nn : (nB (nB (eqBs w2 []))) = false := by rw [e2]
       have hp' : p = (ev0, false) := by
        rw [← hp]; simp [hw, hw2]
       subst hp'
       cases m3
       ·skip
        conv => arg 2; whnf
        repeat ((first | refine Ok.T ?_ | refine Ok.F ?_ | refine Ok.callE h127 h1 (show 3 ≤ 21 by omega) ?_ | refine Ok.N h19 h2 e57 ?_ | refine Ok.ret ?_ | refine Ok.N h46 h1 e46 ?_ | refine Ok.loop F1 h1 ?_ | refine Ok.N h19 h2 e57b ?_ | refine Ok.loop F2 h2 ?_ | refine Ok.N h19 h2 e57c ?_ | refine Ok.loop F3 h3 ?_); conv => arg 2; whnf)
        exact Ok.done ⟨.nils, .nil _, rfl⟩
       ·skip
        conv => arg 2; whnf
        repeat ((first | refine Ok.T ?_ | refine Ok.F ?_ | refine Ok.callE h127 h1 (show 3 ≤ 21 by omega) ?_ | refine Ok.N h19 h2 e57 ?_ | refine Ok.ret ?_ | refine Ok.N h46 h1 e46 ?_ | refine Ok.loop F1 h1 ?_ | refine Ok.N h19 h2 e57b ?_ | refine Ok.loop F2 h2 ?_ | refine Ok.N h19 h2 e57c ?_ | refine Ok.loop F3 h3 ?_); conv => arg 2; whnf)
        exact Ok.done ⟨.nils, .nil _, rfl⟩
     ·skip
      have e1 := eqB_f hw
      have e1n : (nB (eqBs w [])) = true := by rw [e1]
      have e1nn : (nB (nB (eqBs w []))) = false := by rw [e1]
      by_cases hw2 : w2 = []
      ·skip
       have e2 := eqB_t hw2
       have e2n : (nB (eqBs w2 [])) = false := by rw [e2]
       have e2nn : (nB (nB (eqBs w2 []))) = true := by rw [e2]
       have hp' : p = (ev0, false) := by
        rw [← hp]; simp [hw, hw2]
       subst hp'
       cases m3
       ·skip
        conv => arg 2; whnf
        repeat ((first | refine Ok.T ?_ | refine Ok.F ?_ | refine Ok.callE h127 h1 (show 3 ≤ 21 by omega) ?_ | refine Ok.N h19 h2 e57 ?_ | refine Ok.ret ?_ | refine Ok.N h46 h1 e46 ?_ | refine Ok.loop F1 h1 ?_ | refine Ok.N h19 h2 e57b ?_ | refine Ok.loop F2 h2 ?_ | refine Ok.N h19 h2 e57c ?_ | refine Ok.loop F3 h3 ?_); conv => arg 2; whnf)
        exact Ok.done ⟨.nils, .nil _, rfl⟩
       ·skip
        conv => arg 2; whnf
        repeat ((first | refine Ok.T ?_ | refine Ok.F ?_ | refine Ok.callE h127 h1 (show 3 ≤ 21 by omega) ?_ | refine Ok.N h19 h2 e57 ?_ | refine Ok.ret ?_ | refine Ok.N h46 h1 e46 ?_ | refine Ok.loop F1 h1 ?_ | refine Ok.N h19 h2 e57b ?_ | refine Ok.loop F2 h2 ?_ | refine Ok.N h19 h2 e57c ?_ | refine Ok.loop F3 h3 ?_); conv => arg 2; whnf)
        exact Ok.done ⟨.nils, .nil _, rfl⟩
      ·skip
       have e2 := eqB_f hw2
       have e2n : (nB (eqBs w2 [])) = true := by rw [e2]
       have e2nn : (nB (nB (eqBs w2 []))) = false := by rw [e2]
       simp only [if_neg hw, if_neg hw2, Option.map_some, Option.bind_some] at hp
       cases m3
       ·simp only [if_true, Bool.false_eq_true, if_false] at hp; subst hp
        conv => arg 2; whnf
        repeat ((first | refine Ok.T ?_ | refine Ok.F ?_ | refine Ok.callE h127 h1 (show 3 ≤ 21 by omega) ?_ | refine Ok.N h19 h2 e57 ?_ | refine Ok.ret ?_ | refine Ok.N h46 h1 e46 ?_ | refine Ok.loop F1 h1 ?_ | refine Ok.N h19 h2 e57b ?_ | refine Ok.loop F2 h2 ?_ | refine Ok.N h19 h2 e57c ?_ | refine Ok.loop F3 h3 ?_); conv => arg 2; whnf)
        exact Ok.done ⟨_, .inr ⟨by simp, _, rfl, rfl⟩, rfl⟩
       ·simp only [Bool.true_eq_false, if_false] at hp; subst hp
        conv => arg 2; whnf
        repeat ((first | refine Ok.T ?_ | refine Ok.F ?_ | refine Ok.callE h127 h1 (show 3 ≤ 21 by omega) ?_ | refine Ok.N h19 h2 e57 ?_ | refine Ok.ret ?_ | refine Ok.N h46 h1 e46 ?_ | refine Ok.loop F1 h1 ?_ | refine Ok.N h19 h2 e57b ?_ | refine Ok.loop F2 h2 ?_ | refine Ok.N h19 h2 e57c ?_ | refine Ok.loop F3 h3 ?_); conv => arg 2; whnf)
        exact Ok.done ⟨.nils, .nil _, rfl⟩
  ·have e46 := tForm_at hf (by omega)
   simp only [wordsS, Option.bind_some] at hp
   cases mo with
   | false =>
    simp only [Bool.false_eq_true, if_false] at hp; subst hp
    conv => arg 2; whnf
    repeat ((first | refine Ok.T ?_ | refine Ok.F ?_ | refine Ok.callE h127 h1 (show 3 ≤ 21 by omega) ?_ | refine Ok.N h19 h2 e57 ?_ | refine Ok.ret ?_ | refine Ok.N h46 h1 e46 ?_ | refine Ok.loop F1 h1 ?_); conv => arg 2; whnf)
    exact Ok.done ⟨.nils, .nil _, rfl⟩
   | true =>
    simp only [if_true] at hp
    cases hpl : plainS r with
    | none =>
     rw [hpl] at hp; simp only [Option.map_none] at hp; subst hp
     have e128 := tPlainS_no hpl (by omega)
     conv => arg 2; whnf
     repeat ((first | refine Ok.T ?_ | refine Ok.F ?_ | refine Ok.callE h127 h1 (show 3 ≤ 21 by omega) ?_ | refine Ok.N h19 h2 e57 ?_ | refine Ok.ret ?_ | refine Ok.N h46 h1 e46 ?_ | refine Ok.loop F1 h1 ?_ | refine Ok.N h128 h1 e128 ?_); conv => arg 2; whnf)
     exact Ok.done ⟨.nils, .nil _, rfl⟩
    | some x =>
     rw [hpl] at hp; simp only [Option.map_some] at hp; subst hp
     have e128 := tPlainS_at hpl (by omega)
     conv => arg 2; whnf
     repeat ((first | refine Ok.T ?_ | refine Ok.F ?_ | refine Ok.callE h127 h1 (show 3 ≤ 21 by omega) ?_ | refine Ok.N h19 h2 e57 ?_ | refine Ok.ret ?_ | refine Ok.N h46 h1 e46 ?_ | refine Ok.loop F1 h1 ?_ | refine Ok.N h128 h1 e128 ?_); conv => arg 2; whnf)
     exact Ok.done ⟨.nils, .nil _, rfl⟩
  ·have e46 := tForm_at hf (by omega)
   simp only [wordsS, Option.bind_some] at hp
   cases mo with
   | false =>
    simp only [if_true, Bool.false_eq_true, if_false] at hp; subst hp
    conv => arg 2; whnf
    repeat ((first | refine Ok.T ?_ | refine Ok.F ?_ | refine Ok.callE h127 h1 (show 3 ≤ 21 by omega) ?_ | refine Ok.N h19 h2 e57 ?_ | refine Ok.ret ?_ | refine Ok.N h46 h1 e46 ?_ | refine Ok.loop F1 h1 ?_); conv => arg 2; whnf)
    exact Ok.done ⟨.nils, .nil _, rfl⟩
   | true =>
    simp only [Bool.true_eq_false, if_false] at hp; subst hp
    conv => arg 2; whnf
    repeat ((first | refine Ok.T ?_ | refine Ok.F ?_ | refine Ok.callE h127 h1 (show 3 ≤ 21 by omega) ?_ | refine Ok.N h19 h2 e57 ?_ | refine Ok.ret ?_ | refine Ok.N h46 h1 e46 ?_ | refine Ok.loop F1 h1 ?_); conv => arg 2; whnf)
    exact Ok.done ⟨.nils, .nil _, rfl⟩
end
end Go.Fm
set_option maxHeartbeats 8000000
namespace Go.Fm
abbrev bd28 : RC := qo [qm 8 (.next 7),qe 9 8 0] (.seq (.cond 9 .skip (.exit 0)) (.block 1 (qo [qe 10 8 1,qe 11 8 2,qv 3 10,qv 4 11] (qo [qv 12 4,q 13 (.bin .geq .i32 12 (.c (.int .i32 97))),qv 14 13,qg 15 14 true (.mv 4),qg 16 14 true (.bin .leq .i32 15 (.c (.int .i32 122))),qk 17 14 16 qF,qv 18 17,qg 19 18 false (.mv 4),qg 20 18 false (.bin .geq .i32 19 (.c (.int .i32 65))),qg 21 18 false (.mv 20),qg 22 21 true (.mv 4),qg 23 21 true (.bin .leq .i32 22 (.c (.int .i32 90))),qg 24 18 false (.pick 21 23 qF),qk 25 18 qT 24,qv 5 25] (qo [qv 26 5,qt 27 26,qv 28 27,qg 29 28 true (.mv 3),qg 30 28 true (.bin .eql .i64 29 (qI 0)),qg 31 28 true (.mv 30),qg 32 31 false (.mv 4),qg 33 31 false (.bin .neq .i32 32 (.c (.int .i32 95))),qg 34 31 false (.mv 33),qg 35 34 true (.mv 4),qg 36 34 true (.bin .lss .i32 35 (.c (.int .i32 48))),qg 37 34 true (.mv 36),qg 38 37 false (.mv 4),qg 39 37 false (.bin .gtr .i32 38 (.c (.int .i32 57))),qg 40 34 true (.pick 37 qT 39),qg 41 31 false (.pick 34 40 qF),qg 42 28 true (.pick 31 qT 41),qk 43 28 42 qF] (.cond 43 (qo [qv 2 qF] .ret) .skip))))))
def fn28 : RFn := ⟨52,qo [qv 2 qF] (.seq (qo [qv 6 0,qm 7 (.range 6)] (.block 0 (.loop bd28))) (qo [qv 44 0,qs 45 44,qb 46 .gtr 45 (qI 0),qv 47 46,qg 48 47 true (.mv 0),qg 49 47 true (.lenStr 48),qg 50 47 true (.bin .leq .i64 49 (qI 24)),qk 51 47 50 qF,qv 2 51] .ret)),[(.t 2)]⟩
theorem Ok.nextD {Q : V → Mem → Nat → Prop} {k : V × Mem × Nat → A} {t : Tr 3 V} {m : Mem} {n : Nat} {x : X} {id : Nat} {s : ByteArray} {pos y w : Nat} (hx : val t x = .ptr id 0) (hm : m.get id = some (.iter s pos)) (hlt : pos < s.size) (hd : Utf8.decode s pos = (y, w))
  (hk : ∀ m', (∀ j, m'.get j = if j = id then some (.iter s (pos + w)) else m.get j) → Ok Q (k (.tup [.bool true, .int .i64 pos, .int .i32 y], m', n))) : Ok Q (Option.rec (motive := fun _ => A) none k (evM (.next x) t m n)) := by
 refine Ok.next hx hm hlt fun m' hm' => ?_
 rw [hd] at hm' ⊢
 exact hk m' hm'
section
variable {E : Env'} {Q : V → Mem → Nat → Prop}
attribute [local irreducible] Ok callK loopK lenL nthL takeL dropL eqBs wrapK evM getM putM
theorem pname_loop {fu : Nat} {call : CE} {kN kR : KKN} {kE : Nat → KKN} {n : Nat} {fi : List FI} : ∀ (r a : Bs) (k : Nat) (t : Tr 3 V) (m : Mem), r.length < k →
  t.get 0 = some (vs' (a ++ r)) → t.get 7 = some (.ptr 0 0) → m.get 0 = some (.iter (bs (a ++ r)) a.length) →
  (∀ t' m', namesB a r = false → t'.get 2 = some (.bool false) → Ok Q (kR t' m' n fi)) →
  (∀ t' m', namesB a r = true → t'.get 0 = some (vs' (a ++ r)) → Ok Q (kE 0 t' m' n fi)) →
  Ok Q (loopK (comp E bd28).run fu call kN kE kR k t m n fi) := by
 intro r
 induction r with
 | nil =>
  intro a k t m hk t0 t7 hm h1 h2
  obtain ⟨k, rfl⟩ : ∃ k', k = k' + 1 := ⟨k - 1, by omega⟩
  rw [loopK_succ]
  obtain ⟨f_t, rfl⟩ := mkT_form [(0, _), (7, _)] ⟨t0, t7, trivial⟩
  conv => arg 2; whnf
  refine Ok.nextE rfl hm (by show (a ++ []).length ≤ a.length; simp) ?_
  conv => arg 2; whnf
  exact h2 _ _ rfl rfl
 | cons c r ih =>
  intro a k t m hk t0 t7 hm h1 h2
  obtain ⟨k, rfl⟩ : ∃ k', k = k' + 1 := ⟨k - 1, by omega⟩
  rw [loopK_succ]
  simp only [List.length_cons] at hk
  obtain ⟨⟨x, w⟩, hd⟩ : ∃ q, Utf8.decode (bs (a ++ c :: r)) a.length = q := ⟨_, rfl⟩
  have hlt : a.length < (bs (a ++ c :: r)).size := by show a.length < (a ++ c :: r).length; simp
  have nb0 : nameB a c = (((decide (97 ≤ c.toNat) && decide (c.toNat ≤ 122)) || (decide (65 ≤ c.toNat) && decide (c.toNat ≤ 90))) || (!a.isEmpty && ((decide (48 ≤ c.toNat) && decide (c.toNat ≤ 57)) || decide (c.toNat = 95)))) := by
   unfold nameB letB digB
   have : (c == 95) = decide (c.toNat = 95) := by
    rw [Bool.eq_iff_iff, beq_iff_eq, decide_eq_true_eq]
    exact ⟨fun h => by rw [h]; rfl, fun h => UInt8.toNat_inj.1 h⟩
   rw [this]
  have nb : nameB a c = (((decide (97 ≤ x) && decide (x ≤ 122)) || (decide (65 ≤ x) && decide (x ≤ 90))) || (!a.isEmpty && ((decide (48 ≤ x) && decide (x ≤ 57)) || decide (x = 95)))) ∧ (x < 128 → w = 1) := by
   by_cases hc : c.toNat < 128
   ·have e := dec_low (a := a) (r := r) hc
    rw [hd] at e
    injection e with e1 e2
    subst e1
    exact ⟨nb0, fun _ => e2⟩
   ·have e := dec_high (a := a) (r := r) (c := c) (by omega)
    rw [hd] at e
    have e : 128 ≤ x := e
    refine ⟨?_, fun q => by omega⟩
    rw [nb0]
    simp only [decide_eq_false (show ¬ c.toNat ≤ 122 by omega), decide_eq_false (show ¬ c.toNat ≤ 90 by omega), decide_eq_false (show ¬ c.toNat ≤ 57 by omega), decide_eq_false (show ¬ c.toNat = 95 by omega), decide_eq_false (show ¬ x ≤ 122 by omega), decide_eq_false (show ¬ x ≤ 90 by omega), decide_eq_false (show ¬ x ≤ 57 by omega), decide_eq_false (show ¬ x = 95 by omega), Bool.and_false, Bool.or_false]
  obtain ⟨nb, hw⟩ := nb
  have bad : nameB a c = false → ∀ (t' : Tr 3 V) (m' : Mem), t'.get 2 = some (.bool false) → Ok Q (kR t' m' n fi) := fun q t' m' e => h1 t' m' (by simp [namesB, q]) e
  have good : nameB a c = true → x < 128 → ∀ (t' : Tr 3 V) (m' : Mem), (∀ j, m'.get j = if j = 0 then some (.iter (bs (a ++ c :: r)) (a.length + w)) else m.get j) → t'.get 0 = some (vs' (a ++ c :: r)) → t'.get 7 = some (.ptr 0 0) → Ok Q (loopK (comp E bd28).run fu call kN kE kR k t' m' n fi) := by
   intro q q2 t' m' hm' e0 e7
   refine ih (a ++ [c]) k t' m' (by omega) (by rw [e0]; simp) e7 (by rw [hm', if_pos rfl, hw q2]; simp) ?_ ?_
   ·intro t'' m'' q3 e; exact h1 t'' m'' (by simp [namesB, q3]) e
   ·intro t'' m'' q3 e; exact h2 t'' m'' (by simp [namesB, q, q3]) (by rw [e]; simp)
  obtain ⟨f_t, rfl⟩ := mkT_form [(0, _), (7, _)] ⟨t0, t7, trivial⟩
  by_cases q1 : 97 ≤ x
  ·by_cases q2 : x ≤ 122
   ·skip
    have e1 : leIK 97 (x : Int) = true := leIK_tt (by omega)
    have e1n : (nB (leIK 97 (x : Int))) = false := by rw [e1]
    have e2 : leIK (x : Int) 122 = true := leIK_tt (by omega)
    have e2n : (nB (leIK (x : Int) 122)) = false := by rw [e2]
    conv => arg 2; whnf
    refine Ok.nextD rfl hm hlt hd ?_
    intro m' hm'
    conv => arg 2; whnf
    repeat ((first | refine Ok.T ?_ | refine Ok.F ?_); conv => arg 2; whnf)
    exact good (by rw [nb]; simp [*] <;> omega) (by omega) _ _ hm' rfl rfl
   ·by_cases qa : a = []
    ·skip
     have e1 : leIK 97 (x : Int) = true := leIK_tt (by omega)
     have e1n : (nB (leIK 97 (x : Int))) = false := by rw [e1]
     have e2 : leIK (x : Int) 122 = false := leIK_ff (by omega)
     have e2n : (nB (leIK (x : Int) 122)) = true := by rw [e2]
     have e3 : leIK 65 (x : Int) = true := leIK_tt (by omega)
     have e3n : (nB (leIK 65 (x : Int))) = false := by rw [e3]
     have e4 : leIK (x : Int) 90 = false := leIK_ff (by omega)
     have e4n : (nB (leIK (x : Int) 90)) = true := by rw [e4]
     have e0 : eqIK (a.length : Int) 0 = true := eqIK_tt (by simp [qa])
     have e0n : (nB (eqIK (a.length : Int) 0)) = false := by rw [e0]
     conv => arg 2; whnf
     refine Ok.nextD rfl hm hlt hd ?_
     intro m' hm'
     conv => arg 2; whnf
     repeat ((first | refine Ok.T ?_ | refine Ok.F ?_); conv => arg 2; whnf)
     exact bad (by rw [nb]; simp [*] <;> omega) _ _ rfl
    ·skip
     have e1 : leIK 97 (x : Int) = true := leIK_tt (by omega)
     have e1n : (nB (leIK 97 (x : Int))) = false := by rw [e1]
     have e2 : leIK (x : Int) 122 = false := leIK_ff (by omega)
     have e2n : (nB (leIK (x : Int) 122)) = true := by rw [e2]
     have e3 : leIK 65 (x : Int) = true := leIK_tt (by omega)
     have e3n : (nB (leIK 65 (x : Int))) = false := by rw [e3]
     have e4 : leIK (x : Int) 90 = false := leIK_ff (by omega)
     have e4n : (nB (leIK (x : Int) 90)) = true := by rw [e4]
     have e0 : eqIK (a.length : Int) 0 = false := eqIK_ff (by have := List.length_pos_iff.2 qa; omega)
     have e0n : (nB (eqIK (a.length : Int) 0)) = true := by rw [e0]
     have e7 : eqIK (x : Int) 95 = false := eqIK_ff (by omega)
     have e7n : (nB (eqIK (x : Int) 95)) = true := by rw [e7]
     have e5 : ltIK (x : Int) 48 = false := ltIK_ff (by omega)
     have e5n : (nB (ltIK (x : Int) 48)) = true := by rw [e5]
     have e6 : ltIK 57 (x : Int) = true := ltIK_tt (by omega)
     have e6n : (nB (ltIK 57 (x : Int))) = false := by rw [e6]
     conv => arg 2; whnf
     refine Ok.nextD rfl hm hlt hd ?_
     intro m' hm'
     conv => arg 2; whnf
     repeat ((first | refine Ok.T ?_ | refine Ok.F ?_); conv => arg 2; whnf)
     exact bad (by rw [nb]; simp [*] <;> omega) _ _ rfl
  ·by_cases q3 : 65 ≤ x
   ·by_cases q4 : x ≤ 90
    ·skip
     have e1 : leIK 97 (x : Int) = false := leIK_ff (by omega)
     have e1n : (nB (leIK 97 (x : Int))) = true := by rw [e1]
     have e3 : leIK 65 (x : Int) = true := leIK_tt (by omega)
     have e3n : (nB (leIK 65 (x : Int))) = false := by rw [e3]
     have e4 : leIK (x : Int) 90 = true := leIK_tt (by omega)
     have e4n : (nB (leIK (x : Int) 90)) = false := by rw [e4]
     conv => arg 2; whnf
     refine Ok.nextD rfl hm hlt hd ?_
     intro m' hm'
     conv => arg 2; whnf
     repeat ((first | refine Ok.T ?_ | refine Ok.F ?_); conv => arg 2; whnf)
     exact good (by rw [nb]; simp [*] <;> omega) (by omega) _ _ hm' rfl rfl
    ·by_cases qa : a = []
     ·skip
      have e1 : leIK 97 (x : Int) = false := leIK_ff (by omega)
      have e1n : (nB (leIK 97 (x : Int))) = true := by rw [e1]
      have e3 : leIK 65 (x : Int) = true := leIK_tt (by omega)
      have e3n : (nB (leIK 65 (x : Int))) = false := by rw [e3]
      have e4 : leIK (x : Int) 90 = false := leIK_ff (by omega)
      have e4n : (nB (leIK (x : Int) 90)) = true := by rw [e4]
      have e0 : eqIK (a.length : Int) 0 = true := eqIK_tt (by simp [qa])
      have e0n : (nB (eqIK (a.length : Int) 0)) = false := by rw [e0]
      conv => arg 2; whnf
      refine Ok.nextD rfl hm hlt hd ?_
      intro m' hm'
      conv => arg 2; whnf
      repeat ((first | refine Ok.T ?_ | refine Ok.F ?_); conv => arg 2; whnf)
      exact bad (by rw [nb]; simp [*] <;> omega) _ _ rfl
     ·by_cases q7 : x = 95
      ·skip
       have e1 : leIK 97 (x : Int) = false := leIK_ff (by omega)
       have e1n : (nB (leIK 97 (x : Int))) = true := by rw [e1]
       have e3 : leIK 65 (x : Int) = true := leIK_tt (by omega)
       have e3n : (nB (leIK 65 (x : Int))) = false := by rw [e3]
       have e4 : leIK (x : Int) 90 = false := leIK_ff (by omega)
       have e4n : (nB (leIK (x : Int) 90)) = true := by rw [e4]
       have e0 : eqIK (a.length : Int) 0 = false := eqIK_ff (by have := List.length_pos_iff.2 qa; omega)
       have e0n : (nB (eqIK (a.length : Int) 0)) = true := by rw [e0]
       have e7 : eqIK (x : Int) 95 = true := eqIK_tt (by omega)
       have e7n : (nB (eqIK (x : Int) 95)) = false := by rw [e7]
       conv => arg 2; whnf
       refine Ok.nextD rfl hm hlt hd ?_
       intro m' hm'
       conv => arg 2; whnf
       repeat ((first | refine Ok.T ?_ | refine Ok.F ?_); conv => arg 2; whnf)
       exact good (by rw [nb]; simp [*] <;> omega) (by omega) _ _ hm' rfl rfl
      ·skip
       have e1 : leIK 97 (x : Int) = false := leIK_ff (by omega)
       have e1n : (nB (leIK 97 (x : Int))) = true := by rw [e1]
       have e3 : leIK 65 (x : Int) = true := leIK_tt (by omega)
       have e3n : (nB (leIK 65 (x : Int))) = false := by rw [e3]
       have e4 : leIK (x : Int) 90 = false := leIK_ff (by omega)
       have e4n : (nB (leIK (x : Int) 90)) = true := by rw [e4]
       have e0 : eqIK (a.length : Int) 0 = false := eqIK_ff (by have := List.length_pos_iff.2 qa; omega)
       have e0n : (nB (eqIK (a.length : Int) 0)) = true := by rw [e0]
       have e7 : eqIK (x : Int) 95 = false := eqIK_ff (by omega)
       have e7n : (nB (eqIK (x : Int) 95)) = true := by rw [e7]
       have e5 : ltIK (x : Int) 48 = false := ltIK_ff (by omega)
       have e5n : (nB (ltIK (x : Int) 48)) = true := by rw [e5]
       have e6 : ltIK 57 (x : Int) = true := ltIK_tt (by omega)
       have e6n : (nB (ltIK 57 (x : Int))) = false := by rw [e6]
       conv => arg 2; whnf
       refine Ok.nextD rfl hm hlt hd ?_
       intro m' hm'
       conv => arg 2; whnf
       repeat ((first | refine Ok.T ?_ | refine Ok.F ?_); conv => arg 2; whnf)
       exact bad (by rw [nb]; simp [*] <;> omega) _ _ rfl
   ·by_cases qa : a = []
    ·skip
     have e1 : leIK 97 (x : Int) = false := leIK_ff (by omega)
     have e1n : (nB (leIK 97 (x : Int))) = true := by rw [e1]
     have e3 : leIK 65 (x : Int) = false := leIK_ff (by omega)
     have e3n : (nB (leIK 65 (x : Int))) = true := by rw [e3]
     have e0 : eqIK (a.length : Int) 0 = true := eqIK_tt (by simp [qa])
     have e0n : (nB (eqIK (a.length : Int) 0)) = false := by rw [e0]
     conv => arg 2; whnf
     refine Ok.nextD rfl hm hlt hd ?_
     intro m' hm'
     conv => arg 2; whnf
     repeat ((first | refine Ok.T ?_ | refine Ok.F ?_); conv => arg 2; whnf)
     exact bad (by rw [nb]; simp [*] <;> omega) _ _ rfl
    ·by_cases q5 : x < 48
     ·skip
      have e1 : leIK 97 (x : Int) = false := leIK_ff (by omega)
      have e1n : (nB (leIK 97 (x : Int))) = true := by rw [e1]
      have e3 : leIK 65 (x : Int) = false := leIK_ff (by omega)
      have e3n : (nB (leIK 65 (x : Int))) = true := by rw [e3]
      have e0 : eqIK (a.length : Int) 0 = false := eqIK_ff (by have := List.length_pos_iff.2 qa; omega)
      have e0n : (nB (eqIK (a.length : Int) 0)) = true := by rw [e0]
      have e7 : eqIK (x : Int) 95 = false := eqIK_ff (by omega)
      have e7n : (nB (eqIK (x : Int) 95)) = true := by rw [e7]
      have e5 : ltIK (x : Int) 48 = true := ltIK_tt (by omega)
      have e5n : (nB (ltIK (x : Int) 48)) = false := by rw [e5]
      conv => arg 2; whnf
      refine Ok.nextD rfl hm hlt hd ?_
      intro m' hm'
      conv => arg 2; whnf
      repeat ((first | refine Ok.T ?_ | refine Ok.F ?_); conv => arg 2; whnf)
      exact bad (by rw [nb]; simp [*] <;> omega) _ _ rfl
     ·by_cases q6 : 57 < x
      ·skip
       have e1 : leIK 97 (x : Int) = false := leIK_ff (by omega)
       have e1n : (nB (leIK 97 (x : Int))) = true := by rw [e1]
       have e3 : leIK 65 (x : Int) = false := leIK_ff (by omega)
       have e3n : (nB (leIK 65 (x : Int))) = true := by rw [e3]
       have e0 : eqIK (a.length : Int) 0 = false := eqIK_ff (by have := List.length_pos_iff.2 qa; omega)
       have e0n : (nB (eqIK (a.length : Int) 0)) = true := by rw [e0]
       have e7 : eqIK (x : Int) 95 = false := eqIK_ff (by omega)
       have e7n : (nB (eqIK (x : Int) 95)) = true := by rw [e7]
       have e5 : ltIK (x : Int) 48 = false := ltIK_ff (by omega)
       have e5n : (nB (ltIK (x : Int) 48)) = true := by rw [e5]
       have e6 : ltIK 57 (x : Int) = true := ltIK_tt (by omega)
       have e6n : (nB (ltIK 57 (x : Int))) = false := by rw [e6]
       conv => arg 2; whnf
       refine Ok.nextD rfl hm hlt hd ?_
       intro m' hm'
       conv => arg 2; whnf
       repeat ((first | refine Ok.T ?_ | refine Ok.F ?_); conv => arg 2; whnf)
       exact bad (by rw [nb]; simp [*] <;> omega) _ _ rfl
      ·skip
       have e1 : leIK 97 (x : Int) = false := leIK_ff (by omega)
       have e1n : (nB (leIK 97 (x : Int))) = true := by rw [e1]
       have e3 : leIK 65 (x : Int) = false := leIK_ff (by omega)
       have e3n : (nB (leIK 65 (x : Int))) = true := by rw [e3]
       have e0 : eqIK (a.length : Int) 0 = false := eqIK_ff (by have := List.length_pos_iff.2 qa; omega)
       have e0n : (nB (eqIK (a.length : Int) 0)) = true := by rw [e0]
       have e7 : eqIK (x : Int) 95 = false := eqIK_ff (by omega)
       have e7n : (nB (eqIK (x : Int) 95)) = true := by rw [e7]
       have e5 : ltIK (x : Int) 48 = false := ltIK_ff (by omega)
       have e5n : (nB (ltIK (x : Int) 48)) = true := by rw [e5]
       have e6 : ltIK 57 (x : Int) = false := ltIK_ff (by omega)
       have e6n : (nB (ltIK 57 (x : Int))) = true := by rw [e6]
       conv => arg 2; whnf
       refine Ok.nextD rfl hm hlt hd ?_
       intro m' hm'
       conv => arg 2; whnf
       repeat ((first | refine Ok.T ?_ | refine Ok.F ?_); conv => arg 2; whnf)
       exact good (by rw [nb]; simp [*] <;> omega) (by omega) _ _ hm' rfl rfl
theorem namesB_len : ∀ l : Bs, isNameS l = (namesB [] l && (decide (0 < l.length) && decide (l.length ≤ 24))) := by
 intro l
 by_cases h0 : l = []
 ·subst h0; rfl
 ·have hp := List.length_pos_iff.2 h0
  by_cases h24 : l.length ≤ 24
  ·rw [namesB_0 h0 h24, decide_eq_true hp, decide_eq_true h24]; simp
  ·cases l with
   | nil => exact absurd rfl h0
   | cons c r => rw [isName_cons, decide_eq_false h24]; simp
theorem g28 (h : Has E 47 fn28) {l : Bs} (hl : l.length ≤ 100000) : Gives E 47 [vs' l] (.bool (isNameS l)) := by
 obtain ⟨F, F1, h1, hb⟩ : ∃ F F1, F = F1 + 1 ∧ l.length < F := ⟨l.length + 1, l.length, rfl, by omega⟩
 refine h.gives2 F (show 1 ≤ 52 by omega) ?_
 rw [namesB_len]
 conv => arg 2; whnf
 refine Ok.range rfl (by omega) ?_
 intro m' hm'
 conv => arg 2; whnf
 refine pname_loop (E := E) l [] _ _ _ hb rfl rfl (by rw [hm', if_pos rfl]; rfl) ?_ ?_
 ·intro t' m'' q t'2
  obtain ⟨f_tp, rfl⟩ := mkT_form [(2, _)] ⟨t'2, trivial⟩
  conv => arg 2; whnf
  exact Ok.eqB (by rw [q]; rfl)
 ·intro t' m'' q t'0
  rw [List.nil_append] at t'0
  by_cases hp : 0 < l.length
  ·have e1 : ltIK 0 (Int.ofNat (lenL l)) = true := by rw [lenL_eq]; exact ltIK_tt (by show (0 : Int) < (l.length : Int); omega)
   obtain ⟨f_tp, rfl⟩ := mkT_form [(0, _)] ⟨t'0, trivial⟩
   conv => arg 2; whnf
   repeat ((first | refine Ok.T ?_); conv => arg 2; whnf)
   refine Ok.eqB ?_
   rw [q, decide_eq_true hp, lenL_eq, leIK_dec, Bool.true_and, Bool.true_and]
   exact decide_eq_decide.2 (by show (l.length : Int) ≤ 24 ↔ _; omega)
  ·have e1 : ltIK 0 (Int.ofNat (lenL l)) = false := by rw [lenL_eq]; exact ltIK_ff (by show (l.length : Int) ≤ 0; omega)
   obtain ⟨f_tp, rfl⟩ := mkT_form [(0, _)] ⟨t'0, trivial⟩
   conv => arg 2; whnf
   repeat ((first | refine Ok.F ?_); conv => arg 2; whnf)
   refine Ok.eqB ?_
   rw [decide_eq_false hp]; simp
end
end Go.Fm
set_option maxHeartbeats 8000000
namespace Go.Fm
def tWhen : List V → Option V
 | [.bool b, .int .i64 e] => some (vi (if b = true then e else 0))
 | _ => none
theorem tWhen_t {b : Bool} (h : b = true) (e : Int) : tWhen [.bool b, vi e] = some (vi e) := by subst h; rfl
theorem tWhen_f {b : Bool} (h : b = false) (e : Int) : tWhen [.bool b, vi e] = some (vi 0) := by subst h; rfl
theorem recs_nil {E : Env} {t : Tr 3 V} {m : Mem} : (recC E []).run t m = true := rfl
theorem recs_cons {E : Env} {d : DOp} {r : List DOp} {t : Tr 3 V} {m : Mem} (h1 : recheck E t m [d] = true) (h2 : (recC E r).run t m = true) : (recC E (d :: r)).run t m = true := by
 show Bool.rec (motive := fun _ => Bool) false ((recC E r).run t m) (recheck E t m [d]) = true
 rw [h1]; exact h2
theorem rec1 {E : Env} {d : DOp} {t : Tr 3 V} {m : Mem} {sz k : Nat} {g : Bool} {x : X} {v' : V} (hop : d.o = ⟨some k, none, .m (.load sz g x)⟩) (hk : t.get k = some v')
  (h : Ok (fun a _ _ => V.same a v' = true) ((m_load sz g x).run t m 0 fun v m n => some (v, m, n))) : recheck E t m [d] = true := by
 obtain ⟨v, m', n', e, hs⟩ := h
 exact rec_load hop ⟨v, m', n', e, rfl⟩ hk hs rfl
theorem recs1 {E : Env} {d : DOp} {r : List DOp} {t : Tr 3 V} {m : Mem} {sz k : Nat} {g : Bool} {x : X} {v' : V} (hop : d.o = ⟨some k, none, .m (.load sz g x)⟩) (hk : t.get k = some v') (h2 : (recC E r).run t m = true)
  (h : Ok (fun a _ _ => V.same a v' = true) ((m_load sz g x).run t m 0 fun v m n => some (v, m, n))) : (recC E (d :: r)).run t m = true := recs_cons (rec1 hop hk h) h2
section
variable {E : Env'} {Q : V → Mem → Nat → Prop}
attribute [local irreducible] Ok callK loopK lenL nthL takeL dropL eqBs
theorem g22 (h : Has E 30 fn22) (b : Bool) (e : Int) : Gives E 30 [.bool b, vi e] (vi (if b = true then e else 0)) := by
 obtain ⟨F, F1, h1⟩ : ∃ F F1, F = F1 + 1 := ⟨1, 0, rfl⟩
 refine h.gives2 F (show 2 ≤ 7 by omega) ?_
 cases b with
 | true =>
  conv => arg 2; whnf
  exact Ok.eq rfl
 | false =>
  conv => arg 2; whnf
  exact Ok.eq rfl
end
end Go.Fm
end
