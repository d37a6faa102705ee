import Derived.Test.YtciondmibomehaaGreatDoorGC
set_option maxRecDepth 100000
set_option linter.unusedSectionVars false
set_option linter.unusedVariables false
set_option linter.unusedSimpArgs false
set_option linter.constructorNameAsVariable false
noncomputable section
namespace Go.Fm
abbrev bd17 : RC := .seq (qo [qv 5 4,qv 6 0,qs 7 6,qb 8 .lss 5 7] (.cond 8 .skip (.exit 0))) (.seq (.block 1 (qo [qv 11 0,qv 12 4,q 13 (.idxStr 11 12),q 14 (.bin .eql .u8 13 (.c (.int .u8 92)))] (.cond 14 (.ops [qv 15 3,q 16 (.strop .add 15 (qX [92,92])),qv 3 16]) (qo [qv 17 0,qv 18 4,q 19 (.idxStr 17 18),q 20 (.bin .eql .u8 19 (.c (.int .u8 10)))] (.cond 20 (.ops [qv 21 3,q 22 (.strop .add 21 (qX [92,110])),qv 3 22]) (.ops [qv 23 3,qv 24 0,qv 25 4,qv 26 4,qb 27 .add 26 (qI 1),q 28 (.slStr 24 (some 25) (some 27)),q 29 (.strop .add 23 28),qv 3 29])))))) (.ops [qv 9 4,qb 10 .add 9 (qI 1),qv 4 10]))
def fn17 : RFn := ⟨31,qo [qv 2 (qX [])] (qo [qv 3 (qX [])] (.seq (qo [qv 4 (qI 0)] (.block 0 (.loop bd17))) (qo [qv 30 3,qv 2 30] .ret))),[(.t 2)]⟩
def fn51 : RFn := ⟨11,qo [qm 1 (.box 0 25),qv 2 (qX [])] (qo [qm 4 (.load 5 true 1),qc 5 72 [4],qv 3 5] (qo [qv 6 3,qc 7 33 [6],q 8 (.strop .add 7 (qX [32])),qv 9 3,q 10 (.strop .add 8 9),qv 2 10] .ret)),[(.t 2)]⟩
def fn122 : RFn := ⟨31,qo [qm 1 (.box 0 25),qv 2 (qX [])] (.seq (.drawn [⟨[⟨0,qf 6 0 1⟩,⟨1,ql 7 6⟩,⟨3,qf 9 1 1⟩,⟨4,ql 10 9⟩,⟨6,qf 12 2 1⟩,⟨7,ql 13 12⟩],[],some ⟨2,qc 8 77 [7]⟩,[⟨4,ql 10 9⟩,⟨7,ql 13 12⟩]⟩,⟨[⟨5,qm 11 (.buildSl [qz] 2 1 [(0,1,8),(1,1,10)] 9)⟩],[5],some ⟨8,qm 14 (.append [qz] 1 16 11 13 9)⟩,[]⟩,⟨[⟨9,qv 3 14⟩],[],none,[]⟩]) (.seq (qo [qf 16 1 1,ql 17 16,qc 18 65 [17],qv 15 18,qe 19 15 0,qe 20 15 1,qm 4 (.alloc [vi 0,.bool false] 155),qw (.store 2 4 19),qv 5 20] (qo [qf 21 1 4,ql 22 21] (.cond 22 (.ops [qv 23 3,qf 24 4 1,ql 25 24,qc 26 140 [25],qm 27 (.buildSl [qz] 1 1 [(0,1,26)] 9),qm 28 (.append [qz] 1 16 23 27 9),qv 3 28]) .skip))) (qo [qv 29 3,qc 30 106 [29,qX [32]],qv 2 30] .ret))),[(.t 2)]⟩
def fn197 : RFn := ⟨7,qo [qv 2 (qX [])] (qo [qm 3 (.buildSl [qz] 4 1 [(0,1,qX [92]),(1,1,qX [92,92]),(2,1,qX [10]),(3,1,qX [92,110])] 9),qc 4 217 [3],qv 5 0,qc 6 218 [4,5],qv 2 6] .ret),[(.t 2)]⟩
abbrev bd88 : RC := qo [qb 66 .lss 65 64] (.seq (.cond 66 .skip (.exit 3)) (.seq (.block 4 (qo [q 67 (.idxS 1 63 65),ql 68 67,qv 10 68] (qo [qv 69 1,qc 70 69 [8,69]] (.ops [qv 71 10,qc 72 69 [8,71]])))) (.ops [qb 73 .add 65 (qI 1),qv 65 73])))
abbrev bd88b : RC := qo [qb 42 .lss 41 40] (.seq (.cond 42 .skip (.exit 1)) (.seq (.block 2 (qo [q 43 (.idxS 1 39 41),ql 44 43,qv 7 44] (.seq (qo [qv 45 7,qs 46 45,qv 47 5,qb 48 .sub (qI 9223372036854775807) 47,qb 49 .gtr 46 48] (.cond 49 (.ops [q 50 (.mkIf 9 (qX [115,116,114,105,110,103,115,58,32,74,111,105,110,32,111,117,116,112,117,116,32,108,101,110,103,116,104,32,111,118,101,114,102,108,111,119])),⟨none,none,.bad⟩]) .skip)) (.ops [qv 51 5,qv 52 7,qs 53 52,qb 54 .add 51 53,qv 5 54])))) (.ops [qb 55 .add 41 (qI 1),qv 41 55])))
def fn88 : RFn := ⟨75,qo [qv 4 (qX [])] (.seq (qo [qv 11 0,qS 12 11] (.block 0 (qo [qb 14 .eql 12 (qI 0),qv 13 14] (.cond 13 (qo [qv 4 (qX [])] .ret) (qo [qb 16 .eql 12 (qI 1),qv 15 16] (.cond 15 (qo [qv 17 0,q 18 (.idxS 1 17 (qI 0)),ql 19 18,qv 4 19] .ret) .skip)))))) (qo [qv 5 (qI 0)] (.seq (qo [qv 20 1,qs 21 20,qb 22 .gtr 21 (qI 0)] (.cond 22 (.seq (qo [qv 23 1,qs 24 23,qv 25 0,qS 26 25,qb 27 .sub 26 (qI 1),qb 28 .quo (qI 9223372036854775807) 27,qb 29 .geq 24 28] (.cond 29 (.ops [q 30 (.mkIf 9 (qX [115,116,114,105,110,103,115,58,32,74,111,105,110,32,111,117,116,112,117,116,32,108,101,110,103,116,104,32,111,118,101,114,102,108,111,119])),⟨none,none,.bad⟩]) .skip)) (.ops [qv 31 5,qv 32 1,qs 33 32,qv 34 0,qS 35 34,qb 36 .sub 35 (qI 1),qb 37 .mul 33 36,qb 38 .add 31 37,qv 5 38])) .skip)) (.seq (qo [qv 39 0,qS 40 39,qv 41 (qI 0)] (.block 1 (.loop bd88b))) (qo [qm 8 (.alloc [.nilp,.nils] 125)] (qo [qv 56 5,qc 57 184 [8,56]] (qo [qv 58 0,q 59 (.idxS 1 58 (qI 0)),ql 60 59,qc 61 69 [8,60]] (.seq (qo [qv 62 0,q 63 (.slS 1 62 (some (qI 1)) none none),qS 64 63,qv 65 (qI 0)] (.block 3 (.loop bd88))) (qo [qc 74 58 [8],qv 4 74] .ret))))))))),[(.t 4)]⟩
def fn292 : RFn := ⟨17,qo [qv 4 (qX [])] (qo [qv 5 0,qn 6 5,qf 7 0 6,qv 8 0,q 9 (.mkFn (.func 321) [8] []),qc 10 320 [7,9]] (qo [qv 11 0,qn 12 11,qf 13 3 12,ql 14 13,qv 15 1,⟨some 16,none,.inv [(623,734),(625,737),(628,741),(632,743)] 14 [15]⟩,qv 4 16] .ret)),[(.t 4)]⟩
abbrev bd737 : RC := .seq (qo [qv 86 14,qv 87 1,qs 88 87,qb 89 .lss 86 88] (.cond 89 .skip (.exit 4))) (.seq (.block 5 (qo [qv 92 1,qv 93 14,q 94 (.idxStr 92 93),qv 15 94] (qo [qv 95 0,qv 96 15,qn 97 95,qf 98 0 97,q 99 (.idxA 256 1 98 96),ql 100 99,q 101 (.nilop .neq .slice 100)] (.cond 101 (.drawn [⟨[⟨0,qv 102 13⟩,⟨1,qv 103 12⟩,⟨2,qv 104 13⟩,⟨3,q 105 (.slS 1 103 (some 104) none none)⟩,⟨4,qv 106 0⟩,⟨5,qv 107 15⟩,⟨6,qn 108 106⟩,⟨7,qf 109 0 108⟩,⟨8,q 110 (.idxA 256 1 109 107)⟩,⟨9,ql 111 110⟩],[],some ⟨10,qm 112 (.copy 1 105 111)⟩,[]⟩,⟨[⟨11,qb 113 .add 102 112⟩,⟨12,qv 13 113⟩],[],none,[]⟩]) (qo [qv 114 12,qv 115 13,qv 116 15,q 117 (.idxS 1 114 115),qw (.store 1 117 116)] (.ops [qv 118 13,qb 119 .add 118 (qI 1),qv 13 119])))))) (.ops [qv 90 14,qb 91 .add 90 (qI 1),qv 14 91]))
abbrev bd737b : RC := .seq (qo [qv 55 10,qv 56 1,qs 57 56,qb 58 .lss 55 57] (.cond 58 .skip (.exit 2))) (.seq (.block 3 (qo [qv 61 1,qv 62 10,q 63 (.idxStr 61 62),qv 11 63] (qo [qv 64 0,qv 65 11,qn 66 64,qf 67 0 66,q 68 (.idxA 256 1 67 65),ql 69 68,q 70 (.nilop .neq .slice 69)] (.cond 70 (qo [qv 71 5,qv 72 0,qv 73 11,qn 74 72,qf 75 0 74,q 76 (.idxA 256 1 75 73),ql 77 76,qS 78 77,qb 79 .sub 78 (qI 1),qb 80 .add 71 79,qv 5 80] (.ops [qv 6 qT])) .skip)))) (.ops [qv 59 10,qb 60 .add 59 (qI 1),qv 10 60]))
abbrev bd737c : RC := qo [qb 33 .lss 32 31] (.seq (.cond 33 .skip (.exit 0)) (.seq (.block 1 (qo [q 34 (.idxS 1 30 32),ql 35 34,qv 8 35] (qo [qv 36 1,qv 37 8,qc 38 175 [36,37],qv 9 38] (qo [qv 39 9,qb 40 .neq 39 (qI 0)] (.cond 40 (.seq (.drawn [⟨[⟨0,qv 41 5⟩,⟨1,qv 42 9⟩,⟨2,qv 43 0⟩,⟨3,qv 44 8⟩,⟨4,q 45 (.idxStr 44 (qI 0))⟩,⟨5,qn 46 43⟩,⟨6,qf 47 0 46⟩,⟨7,q 48 (.idxA 256 1 47 45)⟩,⟨8,ql 49 48⟩,⟨9,qS 50 49⟩,⟨10,qb 51 .sub 50 (qI 1)⟩,⟨11,qb 52 .mul 42 51⟩,⟨12,qb 53 .add 41 52⟩,⟨13,qv 5 53⟩],[],none,[]⟩]) (.ops [qv 6 qT])) .skip))))) (.ops [qb 54 .add 32 (qI 1),qv 32 54])))
abbrev tl737 : RC := .seq (qo [qv 81 6,qt 82 81] (.cond 82 (qo [qv 83 1,qv 4 83] .ret) .skip)) (qo [qv 84 5,qm 85 (.makeSl [.int .u8 0] 1 1 84 84 5),qv 12 85] (qo [qv 13 (qI 0)] (.seq (qo [qv 14 (qI 0)] (.block 4 (.loop bd737))) (qo [qv 120 12,qm 121 (.toS 120),qv 4 121] .ret))))
def fn737 : RFn := ⟨122,qo [qv 4 (qX [])] (qo [qv 16 1,qs 17 16,qv 5 17] (qo [qv 6 qF] (.seq (qo [qv 18 0,qn 19 18,qf 20 256 19,ql 21 20,qS 22 21,qb 23 .mul 22 (qI 8),qv 24 1,qs 25 24,qb 26 .leq 23 25] (.cond 26 (qo [qv 27 0,qn 28 27,qf 29 256 28,ql 30 29,qS 31 30,qv 32 (qI 0)] (.block 0 (.loop bd737c))) (qo [qv 10 (qI 0)] (.block 2 (.loop bd737b))))) tl737))),[(.t 4)]⟩
def fn174 : RFn := ⟨25,qo [qv 4 0,qc 5 138 [4]] (.seq (qo [qv 6 1,qb 7 .lss 6 (qI 0)] (.cond 7 (.ops [q 8 (.mkIf 9 (qX [115,116,114,105,110,103,115,46,66,117,105,108,100,101,114,46,71,114,111,119,58,32,110,101,103,97,116,105,118,101,32,99,111,117,110,116])),⟨none,none,.bad⟩]) .skip)) (.seq (.drawn [⟨[⟨0,qv 9 0⟩,⟨1,qn 10 9⟩,⟨2,qf 11 1 10⟩,⟨3,ql 12 11⟩,⟨4,q 13 (.capS 12)⟩,⟨5,qv 14 0⟩,⟨6,qn 15 14⟩,⟨7,qf 16 1 15⟩,⟨8,ql 17 16⟩,⟨9,qS 18 17⟩,⟨10,qb 19 .sub 13 18⟩,⟨11,qv 20 1⟩,⟨12,qb 21 .lss 19 20⟩],[],none,[]⟩]) (.cond 21 (.ops [qv 22 0,qv 23 1,qc 24 259 [22,23]]) .skip))),[]⟩
def fn246 : RFn := ⟨30,.seq (.drawn [⟨[⟨0,qv 5 0⟩,⟨1,qn 6 5⟩,⟨2,qf 7 1 6⟩,⟨3,ql 8 7⟩,⟨4,q 9 (.capS 8)⟩,⟨5,qb 10 .mul (qI 2) 9⟩,⟨6,qv 11 1⟩,⟨7,qb 12 .add 10 11⟩,⟨9,qv 14 0⟩,⟨10,qn 15 14⟩,⟨11,qf 16 1 15⟩,⟨12,ql 17 16⟩,⟨13,qS 18 17⟩],[],some ⟨8,qc 13 339 [12]⟩,[⟨12,ql 17 16⟩]⟩,⟨[⟨14,q 19 (.slS 1 13 none (some 18) none)⟩,⟨15,qv 4 19⟩],[],none,[]⟩]) (qo [qv 20 4,qv 21 0,qn 22 21,qf 23 1 22,ql 24 23,qm 25 (.copy 1 20 24)] (.ops [qv 26 0,qv 27 4,qn 28 26,qf 29 1 28,qw (.store 1 29 27)])),[]⟩
abbrev bd165 : RC := .block 1 (qo [qv 20 0,qv 21 1,qc 22 121 [20,21],qv 6 22] (.seq (qo [qv 23 6,qb 24 .eql 23 (qI (-1))] (.cond 24 (qo [qv 25 5,qv 4 25] .ret) .skip)) (qo [qv 26 5,qb 27 .add 26 (qI 1),qv 5 27] (.ops [qv 28 0,qv 29 6,qv 30 1,qs 31 30,qb 32 .add 29 31,q 33 (.slStr 28 (some 32) none),qv 0 33]))))
def fn165 : RFn := ⟨34,qo [qv 4 (qI 0)] (.seq (qo [qv 7 1,qs 8 7,qb 9 .eql 8 (qI 0)] (.cond 9 (qo [qv 10 0,qc 11 253 [10],qb 12 .add 11 (qI 1),qv 4 12] .ret) .skip)) (.seq (qo [qv 13 1,qs 14 13,qb 15 .eql 14 (qI 1)] (.cond 15 (qo [qv 16 0,qv 17 1,q 18 (.idxStr 17 (qI 0)),qc 19 255 [16,18],qv 4 19] .ret) .skip)) (qo [qv 5 (qI 0)] (.block 0 (.loop bd165))))),[(.t 4)]⟩
end Go.Fm
set_option maxHeartbeats 8000000
namespace Go.Fm
def escB (c : UInt8) : Bs := if c = 92 then [92, 92] else if c = 10 then [92, 110] else [c]
def escS : Bs → Bs
 | [] => []
 | c :: r => escB c ++ escS r
theorem escB_len (c : UInt8) : 1 ≤ (escB c).length ∧ (escB c).length ≤ 2 := by
 unfold escB; split
 ·simp
 ·split <;> simp
theorem escS_len : ∀ l : Bs, (escS l).length ≤ 2 * l.length
 | [] => by simp [escS]
 | c :: r => by
  have h1 := escS_len r
  have h2 := (escB_len c).2
  simp only [escS, List.length_append, List.length_cons]; omega
theorem addOk {a b : Bs} (h : a.length + b.length ≤ 100000000) : Nat.ble (Nat.add (lenL a) (lenL b)) 9223372036854775807 = true := by
 rw [lenL_eq, lenL_eq]; exact Nat.ble_eq_true_of_le (by show a.length + b.length ≤ _; omega)
section
variable {E : Env'} {Q : V → Mem → Nat → Prop}
attribute [local irreducible] Ok callK loopK getM putM lenL nthL takeL dropL eqBs wrapK
theorem esc_loop {fu : Nat} {call : CE} {kN kR : KKN} {kE : Nat → KKN} {m : Mem} {n : Nat} {fi : List FI} : ∀ (r a out : Bs) (k : Nat) (t : Tr 3 V), r.length < k → (a ++ r).length ≤ 100000 → out.length + 2 * r.length ≤ 1000000 →
  t.get 0 = some (vs' (a ++ r)) → t.get 3 = some (vs' out) → t.get 4 = some (vi a.length) →
  (∀ t', t'.get 3 = some (vs' (out ++ escS r)) → Ok Q (kE 0 t' m n fi)) →
  Ok Q (loopK (comp E bd17).run fu call kN kE kR k t m n fi) := by
 intro r
 induction r with
 | nil =>
  intro a out k t hk hl ho t0 t3 t4 h2
  obtain ⟨k, rfl⟩ : ∃ k', k = k' + 1 := ⟨k - 1, by omega⟩
  rw [loopK_succ]
  obtain ⟨f_t, rfl⟩ := mkT_form [(0, _), (3, _), (4, _)] ⟨t0, t3, t4, trivial⟩
  conv => arg 2; whnf
  refine Ok.ff (lt_f (by simp)) ?_
  conv => arg 2; whnf
  exact h2 _ (by simp only [escS, List.append_nil]; rfl)
 | cons c r ih =>
  intro a out k t hk hl ho t0 t3 t4 h2
  obtain ⟨k, rfl⟩ : ∃ k', k = k' + 1 := ⟨k - 1, by omega⟩
  rw [loopK_succ]
  simp only [List.length_cons] at hk ho
  simp only [List.length_append, List.length_cons] at hl
  have go : ∀ (t' : Tr 3 V), t'.get 0 = some (vs' (a ++ c :: r)) → t'.get 3 = some (vs' (out ++ escB c)) → t'.get 4 = some (.int .i64 (wrapK .i64 ((a.length : Int).add 1))) → Ok Q (loopK (comp E bd17).run fu call kN kE kR k t' m n fi) := by
   intro t' e0 e3 e4
   have hb := (escB_len c).2
   refine ih (a ++ [c]) (out ++ escB c) k t' (by omega) (by simp; omega) (by simp; omega) (by rw [e0]; simp) e3 (by rw [e4]; exact res_int (wrap1' (a := a) (c := c) (show a.length ≤ 1000000000 by omega))) ?_
   intro t'' e; exact h2 t'' (by rw [e]; simp [escS])
  obtain ⟨f_t, rfl⟩ := mkT_form [(0, _), (3, _), (4, _)] ⟨t0, t3, t4, trivial⟩
  conv => arg 2; whnf
  repeat ((first | refine Ok.tt (lt_t (by simp)) ?_ | refine Ok.opt nth_m ?_); conv => arg 2; whnf)
  by_cases hb : c = 92
  ·have e1 := u8_t (c := c) (k := 92) (by rw [hb]; rfl)
   have e2 := addOk (a := out) (b := [92, 92]) (by simp; omega)
   repeat ((first | refine Ok.T ?_); conv => arg 2; whnf)
   refine go _ rfl ?_ rfl
   rw [show escB c = [92, 92] by simp [escB, hb]]; rfl
  ·have e1 := u8_f (c := c) (k := 92) (u8_ne hb)
   by_cases hc : c = 10
   ·have e3 := u8_t (c := c) (k := 10) (by rw [hc]; rfl)
    have e4 := nth_m (a := a) (c := c) (r := r)
    have e2 := addOk (a := out) (b := [92, 110]) (by simp; omega)
    repeat ((first | refine Ok.T ?_ | refine Ok.F ?_ | refine Ok.opt (by with_reducible first | exact e4) ?_); conv => arg 2; whnf)
    refine go _ rfl ?_ rfl
    rw [show escB c = [92, 110] by simp [escB, hc]]; rfl
   ·have e3 := u8_f (c := c) (k := 10) (u8_ne hc)
    have e4 := nth_m (a := a) (c := c) (r := r)
    have ew := wrap1 (i := a.length) (by omega)
    have f1 : leIK (a.length : Int) (wrapK .i64 ((a.length : Int).add 1)) = true := by rw [ew]; exact leIK_tt (by omega)
    have f2 : leIK (wrapK .i64 ((a.length : Int).add 1)) (Int.ofNat (lenL (a ++ c :: r))) = true := wrap1_le (by omega) (by simp)
    have ec : takeL (Nat.sub (toN (wrapK .i64 ((a.length : Int).add 1))) (toN (a.length : Int))) (dropL (toN (a.length : Int)) (a ++ c :: r)) = [c] := by
     rw [ew, sl_mid]; simp
    have f3 : Nat.ble (Nat.add (lenL out) (lenL (takeL (Nat.sub (toN (wrapK .i64 ((a.length : Int).add 1))) (toN (a.length : Int))) (dropL (toN (a.length : Int)) (a ++ c :: r))))) 9223372036854775807 = true := by
     rw [ec]; exact addOk (by simp; omega)
    repeat ((first | refine Ok.T ?_ | refine Ok.F ?_ | refine Ok.opt (by with_reducible first | exact e4) ?_); conv => arg 2; whnf)
    refine go _ rfl ?_ rfl
    rw [show escB c = [c] by simp [escB, hb, hc]]
    exact res_str (congrArg (List.append out) ec)
theorem g17 (h : Has E 24 fn17) {l : Bs} (hl : l.length ≤ 100000) : Gives E 24 [vs' l] (vs' (escS l)) := by
 refine h.gives2 (l.length + 50) (show 1 ≤ 31 by omega) ?_
 conv => arg 2; whnf
 refine esc_loop (E := E) l [] [] _ _ (by omega) (by simpa using hl) (by simp; omega) rfl rfl rfl ?_
 intro t' t'3
 rw [List.nil_append] at t'3
 obtain ⟨f_tp, rfl⟩ := mkT_form [(3, _)] ⟨t'3, trivial⟩
 conv => arg 2; whnf
 exact Ok.eq rfl
end
def tEsc : List V → Option V := sT fun l => vs' (escS l)
theorem tEsc_at {l : Bs} (hl : l.length ≤ 100000) : tEsc [vs' l] = some (vs' (escS l)) := by unfold tEsc; rw [sT_at hl]
theorem ns_tEsc [Ctx] {P : Program} {E : Env'} (hE : EnvOk P E) (h : Has E 24 fn17) : NSpec P 24 tEsc := ns_sT hE fun l hl => ⟨rfl, g17 h hl⟩
end Go.Fm
namespace Go.Fm
theorem escS_count : ∀ l : Bs, (escS l).length = l.length + l.count 10 + l.count 92
 | [] => rfl
 | c :: r => by
  have ih := escS_count r
  simp only [escS, List.length_append, List.length_cons, List.count_cons]
  by_cases h1 : c = 92
  ·subst h1; simp [escB]; omega
  ·by_cases h2 : c = 10
   ·subst h2; simp [escB]; omega
   ·have e1 : (c == 92) = false := beq_eq_false_iff_ne.2 h1
    have e2 : (c == 10) = false := beq_eq_false_iff_ne.2 h2
    simp [escB, h1, h2, e1, e2]; omega
theorem escS_same : ∀ l : Bs, l.count 10 = 0 → l.count 92 = 0 → escS l = l
 | [], _, _ => rfl
 | c :: r, h1, h2 => by
  simp only [List.count_cons] at h1 h2
  have e1 : c ≠ 10 := by rintro rfl; simp at h1
  have e2 : c ≠ 92 := by rintro rfl; simp at h2
  simp only [escS, escB, if_neg e1, if_neg e2]
  rw [escS_same r (by omega) (by omega)]; rfl
theorem escS_app : ∀ a b : Bs, escS (a ++ b) = escS a ++ escS b
 | [], b => rfl
 | c :: a, b => by simp only [List.cons_append, escS, escS_app a b, List.append_assoc]
def joinS : List Bs → Bs
 | [] => []
 | [a] => a
 | a :: b :: r => a ++ 32 :: joinS (b :: r)
structure EvG where
 num : Int
 kind : Bs
 names : List Bs
 vals : Nat
 text : Bs
def chkG (e : EvG) : Nat :=
 if e.num < 1 ∨ 1000 < e.num then 3 else match formS e.kind with
 | none => 14
 | some f => if e.names.length ≠ f.1 ∨ 0 < e.vals then 2 else if e.names.all isNameS = false then 8 else if f.2 = false ∧ e.text ≠ [] then 1 else if 4096 < e.text.length then 29 else 0
def wordsG (e : EvG) : List Bs := Lib.decDigits e.num.toNat :: e.kind :: (e.names ++ (match formS e.kind with
 | some (_, true) => [escS e.text]
 | _ => []))
def bodyG (e : EvG) : Bs := joinS (wordsG e)
def encG (e : EvG) : Bs := Lib.decDigits (sumS (bodyG e)) ++ 32 :: bodyG e
end Go.Fm
set_option maxHeartbeats 8000000
namespace Go.Fm
def rT (i j k : Nat) (kc : Option Nat) : List V := List.replicate 10 .nils ++ .sl i 0 2 none 1 :: (List.replicate 81 .nils ++ .sl j 0 2 none 1 :: (List.replicate 163 .nils ++ [.sl k 0 2 kc 1]))
def repV (i j : Nat) (c : UInt8) : V := if c = 92 then .sl j 0 2 none 1 else if c = 10 then .sl i 0 2 none 1 else .nils
theorem rT_at (i j k : Nat) (kc : Option Nat) (c : UInt8) : (rT i j k kc)[c.toNat]? = some (repV i j c) := by
 have hc := c.toNat_lt
 have e92 : c = 92 ↔ c.toNat = 92 := ⟨fun h => by rw [h]; rfl, fun h => UInt8.toNat_inj.1 h⟩
 have e10 : c = 10 ↔ c.toNat = 10 := ⟨fun h => by rw [h]; rfl, fun h => UInt8.toNat_inj.1 h⟩
 unfold repV rT
 simp only [e92, e10]
 generalize c.toNat = n at hc
 by_cases h1 : n < 10
 ·rw [List.getElem?_append_left (by simpa using h1), List.getElem?_replicate, if_pos h1, if_neg (by omega), if_neg (by omega)]
 ·rw [List.getElem?_append_right (by simp; omega)]
  simp only [List.length_replicate]
  by_cases h2 : n = 10
  ·subst h2; simp
  ·obtain ⟨p, hp⟩ : ∃ p, n - 10 = p + 1 := ⟨n - 11, by omega⟩
   rw [hp, List.getElem?_cons_succ]
   by_cases h3 : p < 81
   ·rw [List.getElem?_append_left (by simpa using h3), List.getElem?_replicate, if_pos h3, if_neg (by omega), if_neg (by omega)]
   ·rw [List.getElem?_append_right (by simp; omega)]
    simp only [List.length_replicate]
    by_cases h4 : n = 92
    ·have : p - 81 = 0 := by omega
     rw [this, if_pos h4]; rfl
    ·obtain ⟨q, hq⟩ : ∃ q, p - 81 = q + 1 := ⟨p - 82, by omega⟩
     rw [hq, List.getElem?_cons_succ, List.getElem?_append_left (by simp; omega), List.getElem?_replicate, if_pos (by omega), if_neg h4, if_neg h2]
theorem rT_k (i j k : Nat) (kc : Option Nat) : (rT i j k kc)[256]? = some (.sl k 0 2 kc 1) := rfl
structure Rpl (r i j k : Nat) (kc : Option Nat) (m : Mem) : Prop where
 gr : m.get r = some (.cells (rT i j k kc) 631)
 gi : m.get i = some (.ro (bytesL (bs [92, 110])))
 gj : m.get j = some (.ro (bytesL (bs [92, 92])))
 gk : m.get k = some (.cells [vs' [10], vs' [92]] 9)
 lr : r ≤ 262143
 li : i ≤ 262143
 lj : j ≤ 262143
 lk : k ≤ 262143
theorem Rpl.keep {r i j k : Nat} {kc : Option Nat} {m m' : Mem} (h : Rpl r i j k kc m) (hm : ∀ q, q = r ∨ q = i ∨ q = j ∨ q = k → m'.get q = m.get q) : Rpl r i j k kc m' :=
 ⟨by rw [hm r (.inl rfl)]; exact h.gr, by rw [hm i (.inr (.inl rfl))]; exact h.gi, by rw [hm j (.inr (.inr (.inl rfl)))]; exact h.gj, by rw [hm k (.inr (.inr (.inr rfl)))]; exact h.gk, h.lr, h.li, h.lj, h.lk⟩
theorem rT_cut (i j k : Nat) (kc : Option Nat) (c : UInt8) : cutK (Nat.add (Nat.add 0 0) (Nat.mul c.toNat 1)) 1 (rT i j k kc) = some [repV i j c] := cutK_at (by
 have : Nat.add (Nat.add 0 0) (Nat.mul c.toNat 1) = c.toNat := by show 0 + 0 + c.toNat * 1 = _; omega
 rw [this]; exact rT_at i j k kc c)
theorem lt256 (c : UInt8) : Nat.blt c.toNat 256 = true := Nat.ble_eq_true_of_le c.toNat_lt
section
variable {E : Env'} {Q : V → Mem → Nat → Prop}
attribute [local irreducible] Ok callK loopK getM putM lenL nthL takeL dropL eqBs wrapK evM cutK rT
theorem rp2_loop {r i j k : Nat} {kc : Option Nat} {m : Mem} (hR : Rpl r i j k kc m) {fu : Nat} {call : CE} {kN kR : KKN} {kE : Nat → KKN} {n : Nat} {fi : List FI} : ∀ (s a : Bs) (K : Nat) (b : Bool) (t : Tr 3 V), s.length < K → (a ++ s).length ≤ 100000 →
  t.get 0 = some (.ptr r 0) → t.get 1 = some (vs' (a ++ s)) → t.get 5 = some (vi (((a ++ s).length + a.count 10 + a.count 92 : Nat) : Int)) → t.get 6 = some (.bool (decide (0 < a.count 10 + a.count 92))) → t.get 10 = some (vi a.length) →
  (∀ t', t'.get 0 = some (.ptr r 0) → t'.get 1 = some (vs' (a ++ s)) → t'.get 5 = some (vi (escS (a ++ s)).length) → t'.get 6 = some (.bool (decide (0 < (a ++ s).count 10 + (a ++ s).count 92))) → Ok Q (kE 2 t' m n fi)) →
  Ok Q (loopK (comp E bd737b).run fu call kN kE kR K t m n fi) := by
 intro s
 induction s with
 | nil =>
  intro a K b t hk hl t0 t1 t5 t6 t10 H
  obtain ⟨K, rfl⟩ : ∃ k', K = k' + 1 := ⟨K - 1, by omega⟩
  rw [loopK_succ]
  simp only [List.append_nil] at *
  obtain ⟨f_t, rfl⟩ := mkT_form [(0, _), (1, _), (5, _), (6, _), (10, _)] ⟨t0, t1, t5, t6, t10, trivial⟩
  conv => arg 2; whnf
  refine Ok.ff (lt_f (by simp)) ?_
  conv => arg 2; whnf
  refine H _ rfl rfl ?_ rfl
  rw [escS_count]; rfl
 | cons c s ih =>
  intro a K b t hk hl t0 t1 t5 t6 t10 H
  obtain ⟨K, rfl⟩ : ∃ k', K = k' + 1 := ⟨K - 1, by omega⟩
  rw [loopK_succ]
  simp only [List.length_cons] at hk
  simp only [List.length_append, List.length_cons] at hl
  have e0 := lt_t (i := a.length) (l := a ++ c :: s) (by simp)
  have e1 := nth_m (a := a) (c := c) (r := s)
  have e2 := lt256 c
  have q10 : t.get 10 = some (vi a.length) := t10
  have ea : a ++ c :: s = (a ++ [c]) ++ s := by simp
  have go : ∀ (t' : Tr 3 V) (x : Int) (b' : Bool), t'.get 0 = some (.ptr r 0) → t'.get 1 = some (vs' (a ++ c :: s)) → t'.get 5 = some (vi x) → x = ((a ++ c :: s).length + (a ++ [c]).count 10 + (a ++ [c]).count 92 : Nat) → t'.get 6 = some (.bool b') → b' = decide (0 < (a ++ [c]).count 10 + (a ++ [c]).count 92) →
    t'.get 10 = some (.int .i64 (wrapK .i64 ((a.length : Int).add 1))) → Ok Q (loopK (comp E bd737b).run fu call kN kE kR K t' m n fi) := by
   intro t' x b' f0 f1 f5 hx f6 hb f10
   refine ih (a ++ [c]) K b t' (by omega) (by simp; omega) f0 (by rw [f1, ea]) (by rw [f5, hx, ea]) (by rw [f6, hb]) (by rw [f10]; exact res_int (wrap1' (a := a) (c := c) (show a.length ≤ 1000000000 by omega))) ?_
   intro t'' g0 g1 g5 g6
   exact H t'' g0 (by rw [g1, ea]) (by rw [g5, ea]) (by rw [g6, ea])
  by_cases hs : c = 92 ∨ c = 10
  ·obtain ⟨q, e3⟩ : ∃ q, cutK (Nat.add (Nat.add 0 0) (Nat.mul c.toNat 1)) 1 (rT i j k kc) = some [V.sl q 0 2 none 1] := by
    rcases hs with h | h
    ·exact ⟨j, by rw [rT_cut]; simp [repV, h]⟩
    ·exact ⟨i, by rw [rT_cut]; simp [repV, h]⟩
   have hcnt : (a ++ [c]).count 10 + (a ++ [c]).count 92 = a.count 10 + a.count 92 + 1 := by
    rcases hs with h | h <;> subst h <;> simp [List.count_append] <;> omega
   have hw : wrapK .i64 (Int.add (((a ++ c :: s).length + a.count 10 + a.count 92 : Nat) : Int) (wrapK .i64 (Int.sub (Int.ofNat 2) 1))) = ((a ++ c :: s).length + (a ++ [c]).count 10 + (a ++ [c]).count 92 : Nat) := by
    have h1 : wrapK .i64 (Int.sub (Int.ofNat 2) 1) = 1 := wrapS (n := 1) (by omega) (by omega)
    have h2 := List.count_le_length (a := (10 : UInt8)) (l := a)
    have h3 := List.count_le_length (a := (92 : UInt8)) (l := a)
    have h4 : (a ++ c :: s).length = a.length + (s.length + 1) := by simp
    rw [h1]
    have h5 : Int.add (((a ++ c :: s).length + a.count 10 + a.count 92 : Nat) : Int) 1 = (((a ++ c :: s).length + (a ++ [c]).count 10 + (a ++ [c]).count 92 : Nat) : Int) := by
     show (((a ++ c :: s).length + a.count 10 + a.count 92 : Nat) : Int) + 1 = _
     omega
    rw [h5]; exact wrapS (by omega) (by omega)
   obtain ⟨f_t, rfl⟩ := mkT_form [(0, _), (1, _), (5, _), (6, _), (10, _)] ⟨t0, t1, t5, t6, t10, trivial⟩
   conv => arg 2; whnf
   repeat ((first | refine Ok.getM hR.gr hR.lr ?_ | refine Ok.T ?_ | refine Ok.opt (by with_reducible assumption) ?_); conv => arg 2; whnf)
   refine go _ _ true ?_ ?_ ?_ hw ?_ ?_ ?_
   ·rfl
   ·rfl
   ·rfl
   ·rfl
   ·exact (decide_eq_true (by omega)).symm
   ·rfl
  ·have e3 : cutK (Nat.add (Nat.add 0 0) (Nat.mul c.toNat 1)) 1 (rT i j k kc) = some [V.nils] := by
    rw [rT_cut]; simp [repV, not_or.1 hs]
   have hcnt : (a ++ [c]).count 10 = a.count 10 ∧ (a ++ [c]).count 92 = a.count 92 := by
    have h1 : (c == 10) = false := beq_eq_false_iff_ne.2 (not_or.1 hs).2
    have h2 : (c == 92) = false := beq_eq_false_iff_ne.2 (not_or.1 hs).1
    simp [List.count_append, List.count_cons, h1, h2]
   obtain ⟨f_t, rfl⟩ := mkT_form [(0, _), (1, _), (5, _), (6, _), (10, _)] ⟨t0, t1, t5, t6, t10, trivial⟩
   conv => arg 2; whnf
   repeat ((first | refine Ok.getM hR.gr hR.lr ?_ | refine Ok.T ?_ | refine Ok.opt (by with_reducible assumption) ?_); conv => arg 2; whnf)
   refine go _ ((a ++ c :: s).length + a.count 10 + a.count 92 : Nat) (decide (0 < a.count 10 + a.count 92)) ?_ ?_ ?_ ?_ ?_ ?_ ?_
   ·rfl
   ·rfl
   ·rfl
   ·rw [hcnt.1, hcnt.2]
   ·rfl
   ·rw [hcnt.1, hcnt.2]
   ·rfl
end
end Go.Fm
set_option maxHeartbeats 8000000
namespace Go.Fm
theorem cntN_count (c : UInt8) : ∀ (l : Bs) (k : Nat), cntN c.toNat l k = l.count c + k
 | [], k => by simp [cntN]
 | b :: l, k => by
  have hb : Nat.beq b.toNat c.toNat = (b == c) := by
   rw [Bool.eq_iff_iff]
   simp only [Nat.beq_eq, beq_iff_eq]
   exact ⟨fun h => UInt8.toNat_inj.1 h, fun h => by rw [h]⟩
  unfold cntN
  rw [hb, cntN_count c l (k + 1), cntN_count c l k, List.count_cons]
  cases (b == c) <;> simp <;> omega
def tCount1 : List V → Option V := s1T fun c l => vi (l.count c)
theorem tCount1_at {l : Bs} (c : UInt8) (hl : l.length ≤ 100000) : tCount1 [vs' l, vs' [c]] = some (vi (l.count c)) := by
 unfold tCount1; rw [s1T_at hl]
theorem replV_rep (z : V) : ∀ n, replV [z] n = List.replicate n z
 | 0 => rfl
 | n + 1 => by
  show z :: replV [z] n = _
  rw [replV_rep z n]; rfl
theorem Ok.copyR {Q : V → Mem → Nat → Prop} {k : V × Mem × Nat → A} {d s : X} {t : Tr 3 V} {m : Mem} {n b off len q p : Nat} {cap c2 : Option Nat} {cs new : List V} {T : TypeId} (hd : val t d = .sl b off len cap 1) (hs : val t s = .sl q 0 p c2 1)
  (hq : m.get q = some (.ro new)) (hb : m.get b = some (.cells cs T)) (hp : new.length = p) (h0 : 0 < p) (hl : p ≤ len) (hc : off + p ≤ cs.length) (ha : allOne new = true) (hbb : b ≤ 262143)
  (H : ∀ m', (∀ j, m'.get j = if j = b then some (.cells (cs.take off ++ new ++ cs.drop (off + p)) T) else m.get j) → Ok Q (k (.int .i64 p, m', n))) : Ok Q (Option.rec (motive := fun _ => A) none k (evM (.copy 1 d s) t m n)) := by
 obtain ⟨m', hm'⟩ := Tr.set_ok (d := 6) (f := fuel) (k := b) (by show b < 262144; omega) m (some (.cells (cs.take off ++ new ++ cs.drop (off + p)) T) : Option B)
 refine Ok.opt (v := (.int .i64 p, m', n)) ?_ (H m' (Tr.get_set hm'))
 have e1 : (p == 0) = false := by rw [beq_eq_false_iff_ne]; omega
 have e2 : Nat.ble (0 + p) new.length = true := Nat.ble_eq_true_of_le (by omega)
 have e3 : cut 0 p new = new := by simp [cut, ← hp]
 have e4 : Nat.ble (off + p) cs.length = true := Nat.ble_eq_true_of_le (by omega)
 have e5 : (min p len == 0) = false := by rw [Nat.min_eq_left hl]; exact e1
 have e6 : new.take p = new := by rw [← hp, List.take_length]
 simp only [evM, hd, hs, elsV, beq_self_eq_true, cond_true, e1, cond_false, hq, rd, e2, e3, Option.bind_some, hb, Nat.min_eq_left hl, e4, ha, Bool.and_self, Nat.mul_one, e6, hm', Option.map_some]
section
variable {E : Env'} {Q : V → Mem → Nat → Prop}
attribute [local irreducible] Ok callK loopK getM putM lenL nthL takeL dropL eqBs wrapK evM cutK updK
theorem g165 (h : Has E 175 fn165) (h242 : E.nat.get 255 = some tCount) (c : UInt8) (l : Bs) : Gives E 175 [vs' l, vs' [c]] (vi (l.count c)) := by
 obtain ⟨F, F1, e1⟩ : ∃ F F1, F = F1 + 1 := ⟨1, 0, rfl⟩
 refine h.gives2 F (show 2 ≤ 34 by omega) ?_
 have a1 : eqIK (Int.ofNat (lenL ([c] : Bs))) 0 = false := by rw [lenL_eq]; rfl
 have a2 : eqIK (Int.ofNat (lenL ([c] : Bs))) 1 = true := by rw [lenL_eq]; rfl
 have a3 : nthL ([c] : Bs) 0 = some c := by rw [nthL_eq]; rfl
 have a4 : tCount [vs' l, .int .u8 (Int.ofNat c.toNat)] = some (vi (l.count c)) := by
  have b1 : leI 0 (Int.ofNat c.toNat) = true := decide_eq_true (by show (0 : Int) ≤ (c.toNat : Int); omega)
  have b2 : leI (Int.ofNat c.toNat) 255 = true := decide_eq_true (by have := c.toNat_lt; show (c.toNat : Int) ≤ 255; omega)
  show (bif leI 0 (Int.ofNat c.toNat) && leI (Int.ofNat c.toNat) 255 then some (V.int .i64 (Int.ofNat (cntN c.toNat l 0))) else none) = _
  rw [b1, b2, cntN_count]; rfl
 conv => arg 2; whnf
 repeat ((first | refine Ok.T ?_ | refine Ok.F ?_ | refine Ok.opt (by with_reducible first | exact a3) ?_); conv => arg 2; whnf)
 refine Ok.N h242 e1 a4 ?_
 conv => arg 2; whnf
 exact Ok.eq rfl
theorem rp3_loop {r i j k b : Nat} {kc : Option Nat} {fu : Nat} {call : CE} {kN kR : KKN} {kE : Nat → KKN} {n N : Nat} {fi : List FI} (hb : b ≤ 262143) (hbr : b ≠ r ∧ b ≠ i ∧ b ≠ j ∧ b ≠ k) : ∀ (s a : Bs) (K : Nat) (t : Tr 3 V) (m : Mem), Rpl r i j k kc m → s.length < K → (a ++ s).length ≤ 100000 → N = (escS (a ++ s)).length →
  m.get b = some (.cells (bytesL (bs (escS a)) ++ replV [.int .u8 0] (escS s).length) 5) →
  t.get 0 = some (.ptr r 0) → t.get 1 = some (vs' (a ++ s)) → t.get 12 = some (.sl b 0 N (some N) 1) → t.get 13 = some (vi (escS a).length) → t.get 14 = some (vi a.length) →
  (∀ t' m', m'.get b = some (.cells (bytesL (bs (escS (a ++ s)))) 5) → t'.get 12 = some (.sl b 0 N (some N) 1) → Ok Q (kE 4 t' m' n fi)) →
  Ok Q (loopK (comp E bd737).run fu call kN kE kR K t m n fi) := by
 intro s
 induction s with
 | nil =>
  intro a K t m hR hk hl hN hm t0 t1 t12 t13 t14 H
  obtain ⟨K, rfl⟩ : ∃ k', K = k' + 1 := ⟨K - 1, by omega⟩
  rw [loopK_succ]
  simp only [List.append_nil] at *
  obtain ⟨f_t, rfl⟩ := mkT_form [(0, _), (1, _), (12, _), (13, _), (14, _)] ⟨t0, t1, t12, t13, t14, trivial⟩
  conv => arg 2; whnf
  refine Ok.ff (lt_f (by simp)) ?_
  conv => arg 2; whnf
  refine H _ _ ?_ rfl
  rw [hm]; simp [escS, replV]
 | cons c s ih =>
  intro a K t m hR hk hl hN hm t0 t1 t12 t13 t14 H
  obtain ⟨K, rfl⟩ : ∃ k', K = k' + 1 := ⟨K - 1, by omega⟩
  rw [loopK_succ]
  simp only [List.length_cons] at hk
  simp only [List.length_append, List.length_cons] at hl
  have e0 := lt_t (i := a.length) (l := a ++ c :: s) (by simp)
  have e1 := nth_m (a := a) (c := c) (r := s)
  have e2 := lt256 c
  have ea : a ++ c :: s = (a ++ [c]) ++ s := by simp
  have hN2 : N = (escS a).length + (escB c).length + (escS s).length := by rw [hN, escS_app]; simp [escS]; omega
  have hlen : (escS a).length ≤ 2 * a.length := escS_len a
  have hlen2 : (escS s).length ≤ 2 * s.length := escS_len s
  have hbl := escB_len c
  have e4 : leIK ((escS a).length : Int) (Int.ofNat N) = true := leIK_tt (by show ((escS a).length : Int) ≤ (N : Int); omega)
  have e5 : leIK (Int.ofNat N) (Int.ofNat (capD (some N) N)) = true := leIK_tt (Int.le_refl _)
  have e6 : leIK 0 ((escS a).length : Int) = true := le_0 _
  have e7 : Nat.blt (escS a).length N = true := Nat.ble_eq_true_of_le (by omega)
  have hA : (bytesL (bs (escS a))).length = (escS a).length := bsL_len _
  have hfin : (bytesL (bs (escS a)) ++ replV [V.int .u8 0] (escS (c :: s)).length).take (escS a).length ++ bytesL (bs (escB c)) ++ (bytesL (bs (escS a)) ++ replV [V.int .u8 0] (escS (c :: s)).length).drop ((escS a).length + (escB c).length) = bytesL (bs (escS (a ++ [c]))) ++ replV [V.int .u8 0] (escS s).length := by
   have h1 : (escS (c :: s)).length = (escB c).length + (escS s).length := by simp [escS]
   rw [h1, replV_rep, replV_rep, List.take_append_of_le_length (by omega), List.drop_append]
   have h2 : (bytesL (bs (escS a))).take (escS a).length = bytesL (bs (escS a)) := by rw [← hA, List.take_length]
   have h3 : (bytesL (bs (escS a))).drop ((escS a).length + (escB c).length) = [] := List.drop_eq_nil_of_le (by omega)
   rw [h2, h3, hA, escS_app, List.nil_append, show (escS a).length + (escB c).length - (escS a).length = (escB c).length by omega, List.drop_replicate, show (escB c).length + (escS s).length - (escB c).length = (escS s).length by omega]
   rw [← bsL_app]
   simp [escS]
  have go : ∀ (p : Nat) (t' : Tr 3 V) (m' : Mem), (escB c).length = p → (∀ jj, m'.get jj = if jj = b then some (.cells ((bytesL (bs (escS a)) ++ replV [V.int .u8 0] (escS (c :: s)).length).take (escS a).length ++ bytesL (bs (escB c)) ++ (bytesL (bs (escS a)) ++ replV [V.int .u8 0] (escS (c :: s)).length).drop ((escS a).length + p)) 5) else m.get jj) →
    t'.get 0 = some (.ptr r 0) → t'.get 1 = some (vs' (a ++ c :: s)) → t'.get 12 = some (.sl b 0 N (some N) 1) → t'.get 13 = some (.int .i64 (wrapK .i64 (Int.add ((escS a).length : Int) (p : Int)))) → t'.get 14 = some (.int .i64 (wrapK .i64 ((a.length : Int).add 1))) → Ok Q (loopK (comp E bd737).run fu call kN kE kR K t' m' n fi) := by
   intro p t' m' hp hm' f0 f1 f12 f13 f14
   subst hp
   refine ih (a ++ [c]) K t' m' (hR.keep fun q hq => ?_) (by omega) (by simp; omega) (by rw [hN, ea]) ?_ f0 (by rw [f1, ea]) f12 ?_ (by rw [f14]; exact res_int (wrap1' (a := a) (c := c) (show a.length ≤ 1000000000 by omega))) ?_
   ·rw [hm', if_neg]
    rcases hq with rfl | rfl | rfl | rfl
    ·exact fun h => hbr.1 h.symm
    ·exact fun h => hbr.2.1 h.symm
    ·exact fun h => hbr.2.2.1 h.symm
    ·exact fun h => hbr.2.2.2 h.symm
   ·rw [hm', if_pos rfl, hfin]
   ·rw [f13]
    refine res_int ?_
    have : Int.add ((escS a).length : Int) ((escB c).length : Nat) = (((escS (a ++ [c])).length : Nat) : Int) := by
     rw [escS_app]; simp [escS]
    rw [this]
    have h2 := escS_len (a ++ [c])
    simp only [List.length_append, List.length_singleton] at h2
    exact wrapS (by omega) (by omega)
   ·intro t'' m'' g g12
    exact H t'' m'' (by rw [g, ea]) g12
  by_cases hs : c = 92 ∨ c = 10
  ·obtain ⟨q, x, e3, hx, hx2, hq⟩ : ∃ q x, cutK (Nat.add (Nat.add 0 0) (Nat.mul c.toNat 1)) 1 (rT i j k kc) = some [V.sl q 0 2 none 1] ∧ escB c = x ∧ x.length = 2 ∧ m.get q = some (.ro (bytesL (bs x))) := by
    rcases hs with h | h
    ·exact ⟨j, [92, 92], by rw [rT_cut]; simp [repV, h], by simp [escB, h], rfl, hR.gj⟩
    ·exact ⟨i, [92, 110], by rw [rT_cut]; simp [repV, h], by simp [escB, h], rfl, hR.gi⟩
   subst hx
   obtain ⟨f_t, rfl⟩ := mkT_form [(0, _), (1, _), (12, _), (13, _), (14, _)] ⟨t0, t1, t12, t13, t14, trivial⟩
   conv => arg 2; whnf
   repeat ((first | refine Ok.getM hR.gr hR.lr ?_ | refine Ok.T ?_ | refine Ok.opt (by with_reducible assumption) ?_); conv => arg 2; whnf)
   have ho : Nat.add 0 (Nat.mul (toN ((escS a).length : Int)) 1) = (escS a).length := by
    rw [toN_eq]; show 0 + ((escS a).length : Int).toNat * 1 = _; omega
   refine Ok.copyR (p := 2) rfl rfl hq hm (by rw [bsL_len]; exact hx2) (by omega) ?_ ?_ (bytes_one _) hb fun m' hm' => ?_
   ·rw [toN_eq, toN_eq]; show 2 ≤ (N : Int).toNat - ((escS a).length : Int).toNat; omega
   ·rw [ho, List.length_append, hA, replV_rep, List.length_replicate]; simp only [escS, List.length_append]; omega
   rw [ho] at hm'
   conv => arg 2; whnf
   refine go 2 _ m' hx2 hm' ?_ ?_ ?_ ?_ ?_
   ·rfl
   ·rfl
   ·rfl
   ·rfl
   ·rfl
  ·have e3 : cutK (Nat.add (Nat.add 0 0) (Nat.mul c.toNat 1)) 1 (rT i j k kc) = some [V.nils] := by
    rw [rT_cut]; simp [repV, not_or.1 hs]
   have hx : escB c = [c] := by simp [escB, not_or.1 hs]
   have ho : Nat.add 0 (Nat.mul (escS a).length 1) = (escS a).length := by show 0 + (escS a).length * 1 = _; omega
   have e8 : updK [V.int .u8 (Int.ofNat c.toNat)] (bytesL (bs (escS a)) ++ replV [V.int .u8 0] (escS (c :: s)).length) (Nat.add 0 (Nat.mul (escS a).length 1)) = some ((bytesL (bs (escS a)) ++ replV [V.int .u8 0] (escS (c :: s)).length).take (escS a).length ++ bytesL (bs (escB c)) ++ (bytesL (bs (escS a)) ++ replV [V.int .u8 0] (escS (c :: s)).length).drop ((escS a).length + 1)) := by
    rw [ho, updK_eq, if_pos, hx]
    ·rfl
    ·rw [List.length_append, hA, replV_rep, List.length_replicate]; simp only [escS, List.length_append, List.length_singleton]; omega
   obtain ⟨f_t, rfl⟩ := mkT_form [(0, _), (1, _), (12, _), (13, _), (14, _)] ⟨t0, t1, t12, t13, t14, trivial⟩
   conv => arg 2; whnf
   repeat ((first | refine Ok.getM hR.gr hR.lr ?_ | refine Ok.getM hm hb ?_ | refine Ok.T ?_ | refine Ok.opt (by with_reducible assumption) ?_); conv => arg 2; whnf)
   refine Ok.opt e8 ?_
   conv => arg 2; whnf
   refine Ok.putM hb fun m' hm' => ?_
   conv => arg 2; whnf
   refine go 1 _ m' (by rw [hx]; rfl) hm' ?_ ?_ ?_ ?_ ?_
   ·rfl
   ·rfl
   ·rfl
   ·rfl
   ·rfl
end
end Go.Fm
set_option maxHeartbeats 8000000
namespace Go.Fm
theorem Ok.mkZ {Q : V → Mem → Nat → Prop} {k : V × Mem × Nat → A} {l c : X} {t : Tr 3 V} {m : Mem} {n N : Nat} (hl : val t l = vi N) (hc : val t c = vi N) (hN : N ≤ 1000000) (hn : n ≤ 262143)
  (H : ∀ m', (∀ j, m'.get j = if j = n then some (.cells (replV [.int .u8 0] N) 5) else m.get j) → Ok Q (k (.sl n 0 N (some N) 1, m', n + 1))) : Ok Q (Option.rec (motive := fun _ => A) none k (evM (.makeSl [.int .u8 0] 1 1 l c 5) t m n)) := by
 obtain ⟨m', hm'⟩ := Tr.set_ok (d := 6) (f := fuel) (k := n) (by show n < 262144; omega) m (some (.cells (replV [.int .u8 0] N) 5) : Option B)
 refine Ok.opt (v := (.sl n 0 N (some N) 1, m', n + 1)) ?_ (H m' (Tr.get_set hm'))
 have e1 : leI 0 (N : Int) = true := decide_eq_true (by omega)
 have e2 : leI (N : Int) (N : Int) = true := decide_eq_true (Int.le_refl _)
 have e3 : roomOk N 1 = true := by simp [roomOk]; omega
 have e4 : ([V.int .u8 0].length == 1) = true := rfl
 have e5 : (N : Int).toNat = N := by omega
 have e0 : asInt (vi (N : Int)) = some (N : Int) := rfl
 simp only [evM, hl, hc, e0, Option.bind_some, e1, e2, e3, e4, Bool.and_self, cond_true, newB, e5, hm', Option.map_some]
theorem Ok.toSx {Q : V → Mem → Nat → Prop} {k : V × Mem × Nat → A} {x : X} {t : Tr 3 V} {m : Mem} {n b N : Nat} {cap : Option Nat} {l : Bs} {T : TypeId} (hx : val t x = .sl b 0 N cap 1) (hg : m.get b = some (.cells (bytesL (bs l)) T)) (hN : l.length = N) (H : Ok Q (k (vs' l, m, n))) :
  Ok Q (Option.rec (motive := fun _ => A) none k (evM (.toS x) t m n)) := by
 refine Ok.opt (v := (vs' l, m, n)) ?_ H
 by_cases h0 : N = 0
 ·have : l = [] := List.length_eq_zero_iff.1 (by omega)
  subst this
  subst h0
  simp only [evM, hx, elsV, beq_self_eq_true, cond_true, Option.bind_some]; rfl
 ·have e1 : (N == 0) = false := beq_eq_false_iff_ne.2 h0
  have e2 : Nat.ble (0 + N * 1) (bytesL (bs l)).length = true := Nat.ble_eq_true_of_le (by rw [bsL_len]; omega)
  have e3 : cut 0 (N * 1) (bytesL (bs l)) = bytesL (bs l) := by
   unfold cut
   rw [List.drop_zero, Nat.mul_one, ← hN, ← bsL_len l, List.take_length]
  simp only [evM, hx, elsV, beq_self_eq_true, cond_true, e1, cond_false, hg, rd, e2, e3, Option.bind_some, bytesV_L, Option.map_some]
section
variable {E : Env'} {Q : V → Mem → Nat → Prop}
attribute [local irreducible] Ok callK loopK getM putM lenL nthL takeL dropL eqBs wrapK evM cutK updK
theorem rp_tail {r i j k : Nat} {kc : Option Nat} {F : Nat} {call : CE} {kN kR : KKN} {kE : Nat → KKN} {n : Nat} {fi : List FI} {m : Mem} (hR : Rpl r i j k kc m) (hn : n ≤ 262143) (hnr : n ≠ r ∧ n ≠ i ∧ n ≠ j ∧ n ≠ k) {l : Bs} (hl : l.length ≤ 100000) (hF : l.length < F) {t : Tr 3 V}
  (t0 : t.get 0 = some (.ptr r 0)) (t1 : t.get 1 = some (vs' l)) (t5 : t.get 5 = some (vi (escS l).length)) {q : Bool} (hq : q = decide (0 < l.count 10 + l.count 92)) (t6 : t.get 6 = some (.bool q))
  (H : ∀ t' m' n', t'.get 4 = some (vs' (escS l)) → Ok Q (kR t' m' n' fi)) : Ok Q ((comp E tl737).run F call t m n fi kN kE kR) := by
 by_cases h0 : l.count 10 + l.count 92 = 0
 ·have hs : escS l = l := escS_same l (by omega) (by omega)
  have hq2 : q = false := by rw [hq]; exact decide_eq_false (by omega)
  subst hq2
  obtain ⟨f_t, rfl⟩ := mkT_form [(0, _), (1, _), (5, _), (6, _)] ⟨t0, t1, t5, t6, trivial⟩
  conv => arg 2; whnf
  refine H _ _ _ ?_
  rw [hs]; rfl
 ·have hq2 : q = true := by rw [hq]; exact decide_eq_true (by omega)
  subst hq2
  have hN : (escS l).length ≤ 200000 := by have := escS_len l; omega
  obtain ⟨f_t, rfl⟩ := mkT_form [(0, _), (1, _), (5, _), (6, _)] ⟨t0, t1, t5, t6, trivial⟩
  conv => arg 2; whnf
  refine Ok.mkZ rfl rfl (by omega) hn fun m1 hm1 => ?_
  conv => arg 2; whnf
  refine rp3_loop (E := E) (N := (escS l).length) hn hnr l [] F _ m1 (hR.keep fun q hq => ?_) hF (by simpa using hl) rfl ?_ ?_ ?_ ?_ ?_ ?_ ?_
  ·rw [hm1, if_neg]
   rcases hq with rfl | rfl | rfl | rfl
   ·exact fun h => hnr.1 h.symm
   ·exact fun h => hnr.2.1 h.symm
   ·exact fun h => hnr.2.2.1 h.symm
   ·exact fun h => hnr.2.2.2 h.symm
  ·rw [hm1, if_pos rfl]; rfl
  ·rfl
  ·rfl
  ·rfl
  ·rfl
  ·rfl
  ·intro t' m' g t'12
   obtain ⟨f_tp, rfl⟩ := mkT_form [(12, _)] ⟨t'12, trivial⟩
   conv => arg 2; whnf
   refine Ok.toSx rfl g rfl ?_
   conv => arg 2; whnf
   refine H _ _ _ ?_
   rfl
theorem rp1_loop (h165 : E.nat.get 175 = some tCount1) {r i j k : Nat} {kc : Option Nat} {m : Mem} {n : Nat} (hR : Rpl r i j k kc m) {l : Bs} (hl : l.length ≤ 100000) {F F1 F2 F3 : Nat} (e1 : F = F1 + 1) (e2 : F1 = F2 + 1) (e3 : F2 = F3 + 1) {kN kR : KKN} {kE : Nat → KKN} {fi : List FI} {t : Tr 3 V}
  (t0 : t.get 0 = some (.ptr r 0)) (t1 : t.get 1 = some (vs' l)) (t5 : t.get 5 = some (vi (Int.ofNat (lenL l)))) (t6 : t.get 6 = some (.bool false)) (t30 : t.get 30 = some (.sl k 0 2 kc 1)) (t31 : t.get 31 = some (vi 2)) (t32 : t.get 32 = some (vi 0))
  (H : ∀ t' x q, t'.get 0 = some (.ptr r 0) → t'.get 1 = some (vs' l) → t'.get 5 = some (.int .i64 x) → x = ((escS l).length : Int) → t'.get 6 = some (.bool q) → q = decide (0 < l.count 10 + l.count 92) → Ok Q (kE 0 t' m n fi)) :
  Ok Q (loopK (comp E bd737c).run F (callK E F) kN kE kR F t m n fi) := by
 have k0 : cutK (Nat.add 0 (Nat.mul 0 1)) 1 [vs' [10], vs' [92]] = some [vs' [10]] := by rw [cutK_eq]; rfl
 have k1 : cutK (Nat.add 0 (Nat.mul 1 1)) 1 [vs' [10], vs' [92]] = some [vs' [92]] := by rw [cutK_eq]; rfl
 have c1 := tCount1_at (l := l) 10 hl
 have c2 := tCount1_at (l := l) 92 hl
 have w1 : wrapK .i64 (Int.add 0 1) = 1 := wrapS (n := 1) (by omega) (by omega)
 have w2 : wrapK .i64 (Int.add (wrapK .i64 (Int.add 0 1)) 1) = 2 := by rw [w1]; exact wrapS (n := 2) (by omega) (by omega)
 have w1' : wrapK .i64 (Int.add 0 1) = ((1 : Nat) : Int) := w1
 have a1 : ltIK (wrapK .i64 (Int.add 0 1)) 2 = true := by rw [w1]; rfl
 have a2 : ltIK (wrapK .i64 (Int.add (wrapK .i64 (Int.add 0 1)) 1)) 2 = false := by rw [w2]; rfl
 have n1 : nthL ([10] : Bs) 0 = some 10 := by rw [nthL_eq]; rfl
 have n2 : nthL ([92] : Bs) 0 = some 92 := by rw [nthL_eq]; rfl
 have x1 : cutK (Nat.add (Nat.add 0 0) (Nat.mul (UInt8.toNat 10) 1)) 1 (rT i j k kc) = some [V.sl i 0 2 none 1] := by rw [rT_cut]; rfl
 have x2 : cutK (Nat.add (Nat.add 0 0) (Nat.mul (UInt8.toNat 92) 1)) 1 (rT i j k kc) = some [V.sl j 0 2 none 1] := by rw [rT_cut]; rfl
 have l10 := List.count_le_length (a := (10 : UInt8)) (l := l)
 have l92 := List.count_le_length (a := (92 : UInt8)) (l := l)
 have d1 : wrapK .i64 (Int.sub (Int.ofNat 2) 1) = 1 := wrapS (n := 1) (by omega) (by omega)
 have dm : ∀ z : Nat, z ≤ 100000 → wrapK .i64 (Int.mul (z : Int) (wrapK .i64 (Int.sub (Int.ofNat 2) 1))) = (z : Int) := fun z hz => by
  rw [d1, show Int.mul (z : Int) 1 = (z : Int) from Int.mul_one _]; exact wrapS (by omega) (by omega)
 have da : ∀ y z : Nat, y ≤ 1000000 → z ≤ 100000 → wrapK .i64 (Int.add (y : Int) (wrapK .i64 (Int.mul (z : Int) (wrapK .i64 (Int.sub (Int.ofNat 2) 1))))) = ((y + z : Nat) : Int) := fun y z hy hz => by
  rw [dm z hz, show Int.add (y : Int) (z : Int) = ((y + z : Nat) : Int) from rfl]; exact wrapS (by omega) (by omega)
 have hL : Int.ofNat (lenL l) = ((l.length : Nat) : Int) := by rw [lenL_eq]; rfl
 by_cases z1 : l.count 10 = 0
 ·have b1 : (nB (eqIK ((l.count 10 : Nat) : Int) 0)) = false := by rw [z1]; rfl
  by_cases z2 : l.count 92 = 0
  ·have b2 : (nB (eqIK ((l.count 92 : Nat) : Int) 0)) = false := by rw [z2]; rfl
   have hx : Int.ofNat (lenL l) = ((escS l).length : Int) := by rw [hL, escS_count, z1, z2]; rfl
   have hq : false = decide (0 < l.count 10 + l.count 92) := (decide_eq_false (by omega)).symm
   obtain ⟨f_t, rfl⟩ := mkT_form [(0, _), (1, _), (5, _), (6, _), (30, _), (31, _), (32, _)] ⟨t0, t1, t5, t6, t30, t31, t32, trivial⟩
   conv => arg 2; whnf
   repeat ((first | refine Ok.getM hR.gr hR.lr ?_ | refine Ok.getM hR.gk hR.lk ?_ | refine Ok.opt (by with_reducible assumption) ?_ | refine Ok.T ?_ | refine Ok.F ?_ | refine Ok.N h165 e1 c1 ?_ | refine Ok.N h165 e1 c2 ?_ | refine Ok.loop F1 e1 ?_ | refine Ok.loop F2 e2 ?_ | refine Ok.loop F3 e3 ?_ | refine Ok.idx w1' ?_); conv => arg 2; whnf)
   refine H _ _ _ ?_ ?_ ?_ hx ?_ hq
   ·rfl
   ·rfl
   ·rfl
   ·rfl
  ·have b2 : (nB (eqIK ((l.count 92 : Nat) : Int) 0)) = true := by rw [eqIK_ff (by omega)]
   have hx : wrapK .i64 (Int.add (Int.ofNat (lenL l)) (wrapK .i64 (Int.mul ((l.count 92 : Nat) : Int) (wrapK .i64 (Int.sub (Int.ofNat 2) 1))))) = ((escS l).length : Int) := by
    rw [hL, da _ _ (by omega) (by omega), escS_count, z1]; rfl
   have hq : true = decide (0 < l.count 10 + l.count 92) := (decide_eq_true (by omega)).symm
   obtain ⟨f_t, rfl⟩ := mkT_form [(0, _), (1, _), (5, _), (6, _), (30, _), (31, _), (32, _)] ⟨t0, t1, t5, t6, t30, t31, t32, trivial⟩
   conv => arg 2; whnf
   repeat ((first | refine Ok.getM hR.gr hR.lr ?_ | refine Ok.getM hR.gk hR.lk ?_ | refine Ok.opt (by with_reducible assumption) ?_ | refine Ok.T ?_ | refine Ok.F ?_ | refine Ok.N h165 e1 c1 ?_ | refine Ok.N h165 e1 c2 ?_ | refine Ok.loop F1 e1 ?_ | refine Ok.loop F2 e2 ?_ | refine Ok.loop F3 e3 ?_ | refine Ok.idx w1' ?_); conv => arg 2; whnf)
   refine H _ _ _ ?_ ?_ ?_ hx ?_ hq
   ·rfl
   ·rfl
   ·rfl
   ·rfl
 ·have b1 : (nB (eqIK ((l.count 10 : Nat) : Int) 0)) = true := by rw [eqIK_ff (by omega)]
  by_cases z2 : l.count 92 = 0
  ·have b2 : (nB (eqIK ((l.count 92 : Nat) : Int) 0)) = false := by rw [z2]; rfl
   have hx : wrapK .i64 (Int.add (Int.ofNat (lenL l)) (wrapK .i64 (Int.mul ((l.count 10 : Nat) : Int) (wrapK .i64 (Int.sub (Int.ofNat 2) 1))))) = ((escS l).length : Int) := by
    rw [hL, da _ _ (by omega) (by omega), escS_count, z2]; rfl
   have hq : true = decide (0 < l.count 10 + l.count 92) := (decide_eq_true (by omega)).symm
   obtain ⟨f_t, rfl⟩ := mkT_form [(0, _), (1, _), (5, _), (6, _), (30, _), (31, _), (32, _)] ⟨t0, t1, t5, t6, t30, t31, t32, trivial⟩
   conv => arg 2; whnf
   repeat ((first | refine Ok.getM hR.gr hR.lr ?_ | refine Ok.getM hR.gk hR.lk ?_ | refine Ok.opt (by with_reducible assumption) ?_ | refine Ok.T ?_ | refine Ok.F ?_ | refine Ok.N h165 e1 c1 ?_ | refine Ok.N h165 e1 c2 ?_ | refine Ok.loop F1 e1 ?_ | refine Ok.loop F2 e2 ?_ | refine Ok.loop F3 e3 ?_ | refine Ok.idx w1' ?_); conv => arg 2; whnf)
   refine H _ _ _ ?_ ?_ ?_ hx ?_ hq
   ·rfl
   ·rfl
   ·rfl
   ·rfl
  ·have b2 : (nB (eqIK ((l.count 92 : Nat) : Int) 0)) = true := by rw [eqIK_ff (by omega)]
   have hx : wrapK .i64 (Int.add (wrapK .i64 (Int.add (Int.ofNat (lenL l)) (wrapK .i64 (Int.mul ((l.count 10 : Nat) : Int) (wrapK .i64 (Int.sub (Int.ofNat 2) 1)))))) (wrapK .i64 (Int.mul ((l.count 92 : Nat) : Int) (wrapK .i64 (Int.sub (Int.ofNat 2) 1))))) = ((escS l).length : Int) := by
    rw [hL, da _ _ (by omega) (by omega), da _ _ (by omega) (by omega), escS_count]
   have hq : true = decide (0 < l.count 10 + l.count 92) := (decide_eq_true (by omega)).symm
   obtain ⟨f_t, rfl⟩ := mkT_form [(0, _), (1, _), (5, _), (6, _), (30, _), (31, _), (32, _)] ⟨t0, t1, t5, t6, t30, t31, t32, trivial⟩
   conv => arg 2; whnf
   repeat ((first | refine Ok.getM hR.gr hR.lr ?_ | refine Ok.getM hR.gk hR.lk ?_ | refine Ok.opt (by with_reducible assumption) ?_ | refine Ok.T ?_ | refine Ok.F ?_ | refine Ok.N h165 e1 c1 ?_ | refine Ok.N h165 e1 c2 ?_ | refine Ok.loop F1 e1 ?_ | refine Ok.loop F2 e2 ?_ | refine Ok.loop F3 e3 ?_ | refine Ok.idx w1' ?_); conv => arg 2; whnf)
   refine H _ _ _ ?_ ?_ ?_ hx ?_ hq
   ·rfl
   ·rfl
   ·rfl
   ·rfl
theorem g737 (h : Has E 743 fn737) (h165 : E.nat.get 175 = some tCount1) {r i j k : Nat} {kc : Option Nat} {m : Mem} {n : Nat} (hR : Rpl r i j k kc m) (hn : n ≤ 262143) (hnr : n ≠ r ∧ n ≠ i ∧ n ≠ j ∧ n ≠ k) {l : Bs} (hl : l.length ≤ 100000) {K F F1 F2 F3 : Nat} (e0 : K = F + 1) (e1 : F = F1 + 1) (e2 : F1 = F2 + 1) (e3 : F2 = F3 + 1) (hF : l.length < F) :
  Ok (fun v _ _ => v = vs' (escS l)) (callK E K (.f 743) [.ptr r 0, vs' l] m n) := by
 subst e0
 rw [callK_fn h.h1 h.h2 h.h3]
 have c256 : cutK (Nat.add 0 256) 1 (rT i j k kc) = some [.sl k 0 2 kc 1] := cutK_at (rT_k i j k kc)
 have w16 : wrapK .i64 (Int.mul (Int.ofNat 2) 8) = 16 := wrapS (n := 16) (by omega) (by omega)
 by_cases h16 : 16 ≤ l.length
 ·have q1 : leIK (wrapK .i64 (Int.mul (Int.ofNat 2) 8)) (Int.ofNat (lenL l)) = true := by rw [w16, lenL_eq]; exact leIK_tt (by show (16 : Int) ≤ (l.length : Int); omega)
  conv => arg 2; whnf
  repeat ((first | refine Ok.getM hR.gr hR.lr ?_ | refine Ok.opt (by with_reducible first | exact c256) ?_ | refine Ok.T ?_); conv => arg 2; whnf)
  refine rp1_loop h165 hR hl e1 e2 e3 ?_ ?_ ?_ ?_ ?_ ?_ ?_ fun t' x q g0 g1 g5 hx g6 hq => ?_
  ·rfl
  ·rfl
  ·rfl
  ·rfl
  ·rfl
  ·rfl
  ·rfl
  subst hx
  refine rp_tail (E := E) hR hn hnr hl hF g0 g1 g5 hq g6 fun t2 m2 n2 g4 => ?_
  obtain ⟨f_t2, rfl⟩ := mkT_form [(4, _)] ⟨g4, trivial⟩
  conv => arg 2; whnf
  exact Ok.eq rfl
 ·have q1 : leIK (wrapK .i64 (Int.mul (Int.ofNat 2) 8)) (Int.ofNat (lenL l)) = false := by rw [w16, lenL_eq]; exact leIK_ff (by show (l.length : Int) < (16 : Int); omega)
  conv => arg 2; whnf
  repeat ((first | refine Ok.getM hR.gr hR.lr ?_ | refine Ok.opt (by with_reducible first | exact c256) ?_ | refine Ok.F ?_); conv => arg 2; whnf)
  have hlen : Int.ofNat (lenL l) = ((([] ++ l : Bs).length + ([] : Bs).count 10 + ([] : Bs).count 92 : Nat) : Int) := by rw [lenL_eq]; rfl
  refine rp2_loop (E := E) hR l [] F false _ hF (by simpa using hl) rfl rfl (res_int hlen) rfl rfl fun t' g0 g1 g5 g6 => ?_
  refine rp_tail (E := E) hR hn hnr hl hF g0 g1 g5 rfl g6 fun t2 m2 n2 g4 => ?_
  obtain ⟨f_t2, rfl⟩ := mkT_form [(4, _)] ⟨g4, trivial⟩
  conv => arg 2; whnf
  exact Ok.eq rfl
end
end Go.Fm
set_option maxHeartbeats 8000000
namespace Go.Fm
def StrsAt (id off : Nat) (names : List Bs) (m : Mem) : Prop := id ≤ 262143 ∧ ∃ b cs, m.get id = some b ∧ (∀ k, cellsOfB b k = k cs) ∧ ∀ (i : Nat) (x : Bs), names[i]? = some x → cs[off + i]? = some (vs' x)
theorem StrsAt.keep {id off : Nat} {names : List Bs} {m m' : Mem} (h : StrsAt id off names m) (hm : m'.get id = m.get id) : StrsAt id off names m' := by
 obtain ⟨h1, b, cs, h2, h3, h4⟩ := h
 exact ⟨h1, b, cs, by rw [hm]; exact h2, h3, h4⟩
theorem Ok.ldS {Q : V → Mem → Nat → Prop} {kk : V → A} {id off i o : Nat} {names : List Bs} {m : Mem} {x : Bs} (h : StrsAt id off names m) (hi : names[i]? = some x) (ho : o = off + i) (hk : Ok Q (kk (vs' x))) :
  Ok Q (Go.Fm.getM m id fun b => cellsOfB b fun cs => bindA (cutK o 1 cs) fun l => wrapC false l kk) := by
 obtain ⟨h1, b, cs, h2, h3, h4⟩ := h
 have hc : cutK o 1 cs = some [vs' x] := cutK_at (by rw [ho]; exact h4 i x hi)
 refine Ok.getM h2 h1 ?_
 rw [h3, hc]; exact hk
end Go.Fm
set_option maxHeartbeats 8000000
namespace Go.Fm
def NamesV (nv : V) (names : List Bs) (m : Mem) : Prop := (nv = .nils ∧ names = []) ∨ ∃ id off cap, nv = .sl id off names.length cap 1 ∧ (names = [] ∨ StrsAt id off names m)
section
variable {E : Env'} {Q : V → Mem → Nat → Prop}
attribute [local irreducible] Ok callK loopK lenL nthL takeL dropL eqBs getM putM appVC evM cutK
theorem cont_loop (h129 : Has E 71 fn129) (h28 : E.nat.get 47 = some tNameS) {F F1 F2 : Nat} (e1 : F = F1 + 1) (e2 : F1 = F2 + 1) {kN kR : KKN} {kE : Nat → KKN} {fi : List FI} {id off : Nat} {names : List Bs} {cap : Option Nat} {m : Mem} {n : Nat} (hs : names = [] ∨ StrsAt id off names m) (hl : names.length ≤ 100000) (hx : ∀ x ∈ names, x.length ≤ 100000) :
  ∀ (r a : List Bs) (K : Nat) (t : Tr 3 V), a ++ r = names → r.length < K → t.get 0 = some (.sl id off names.length cap 1) → t.get 1 = some (.fn (.func 71) [] []) → t.get 7 = some (vi names.length) → t.get 8 = some (vi a.length) →
  (∀ t' (j : Nat), r.all isNameS = false → t'.get 4 = some (vi j) → Ok Q (kR t' m n fi)) → (∀ t', r.all isNameS = true → Ok Q (kE 0 t' m n fi)) → Ok Q (loopK (comp E bd203).run F (callK E F) kN kE kR K t m n fi) := by
 intro r
 induction r with
 | nil =>
  intro a K t ha hK t0 t1 t7 t8 H1 H2
  obtain ⟨K, rfl⟩ : ∃ k', K = k' + 1 := ⟨K - 1, by omega⟩
  rw [loopK_succ]
  have q1 : ltIK (a.length : Int) (names.length : Int) = false := ltIK_ff (by rw [← ha]; simp)
  obtain ⟨f_t, rfl⟩ := mkT_form [(0, _), (1, _), (7, _), (8, _)] ⟨t0, t1, t7, t8, trivial⟩
  conv => arg 2; whnf
  refine Ok.ff q1 ?_
  conv => arg 2; whnf
  exact H2 _ rfl
 | cons c r ih =>
  intro a K t ha hK t0 t1 t7 t8 H1 H2
  obtain ⟨K, rfl⟩ : ∃ k', K = k' + 1 := ⟨K - 1, by omega⟩
  rw [loopK_succ]
  have hs := hs.resolve_left (by rw [← ha]; simp)
  have hlen : a.length < names.length := by rw [← ha]; simp
  have q1 : ltIK (a.length : Int) (names.length : Int) = true := ltIK_tt (by omega)
  have q2 : Nat.blt a.length names.length = true := Nat.ble_eq_true_of_le hlen
  have hi : names[a.length]? = some c := by rw [← ha]; simp
  have ho : Nat.add off (Nat.mul a.length 1) = off + a.length := by show off + a.length * 1 = _; omega
  have hc := hx c (List.mem_of_getElem? hi)
  cases ec : isNameS c with
  | false =>
   have e28 := tNameS_at ec hc
   obtain ⟨f_t, rfl⟩ := mkT_form [(0, _), (1, _), (7, _), (8, _)] ⟨t0, t1, t7, t8, trivial⟩
   conv => arg 2; whnf
   repeat ((first | refine Ok.T ?_); conv => arg 2; whnf)
   refine Ok.ldS hs hi ho ?_
   conv => arg 2; whnf
   repeat ((first | refine Ok.callE h129 e1 (show 1 ≤ 6 by omega) ?_ | refine Ok.N h28 e2 e28 ?_ | refine Ok.ret ?_); conv => arg 2; whnf)
   exact H1 _ a.length (by simp [ec]) rfl
  | true =>
   have e28 := tNameS_at ec hc
   obtain ⟨f_t, rfl⟩ := mkT_form [(0, _), (1, _), (7, _), (8, _)] ⟨t0, t1, t7, t8, trivial⟩
   conv => arg 2; whnf
   repeat ((first | refine Ok.T ?_); conv => arg 2; whnf)
   refine Ok.ldS hs hi ho ?_
   conv => arg 2; whnf
   repeat ((first | refine Ok.callE h129 e1 (show 1 ≤ 6 by omega) ?_ | refine Ok.N h28 e2 e28 ?_ | refine Ok.ret ?_); conv => arg 2; whnf)
   refine ih (a ++ [c]) K _ (by rw [← ha]; simp) (by simp at hK; omega) ?_ ?_ ?_ ?_ ?_ ?_
   ·rfl
   ·rfl
   ·rfl
   ·exact res_int ((wrap1 (by omega)).trans (by simp))
   ·intro t' j hr g4
    exact H1 t' j (by simp [hr]) g4
   ·intro t' hr
    exact H2 t' (by simp [ec, hr])
theorem g114 (h114 : Has E 70 fn114) (h203 : Has E 139 fn203) (h129 : Has E 71 fn129) (h28 : E.nat.get 47 = some tNameS) {K F F1 F2 F3 : Nat} (e0 : K = F + 1) (e1 : F = F1 + 1) (e2 : F1 = F2 + 1) (e3 : F2 = F3 + 1) {nv : V} {names : List Bs} {m : Mem} {n : Nat} (hs : NamesV nv names m) (hl : names.length < F1) (hl2 : names.length ≤ 100000) (hx : ∀ x ∈ names, x.length ≤ 100000) :
  Ok (fun v m' n' => v = .bool (!names.all isNameS) ∧ m' = m ∧ n' = n) (callK E K (.f 70) [nv, .fn (.func 71) [] []] m n) := by
 subst e0
 rw [callK_fn h114.h1 h114.h2 h114.h3]
 rcases hs with ⟨rfl, rfl⟩ | ⟨id, off, cap, rfl, hs⟩
 ·conv => arg 2; whnf
  repeat ((first | refine Ok.callE h203 e1 (show 2 ≤ 19 by omega) ?_ | refine Ok.loop F2 e2 ?_ | refine Ok.ret ?_); conv => arg 2; whnf)
  exact Ok.done ⟨rfl, rfl, rfl⟩
 ·conv => arg 2; whnf
  refine Ok.callE h203 e1 (show 2 ≤ 19 by omega) ?_
  conv => arg 2; whnf
  refine cont_loop (E := E) h129 h28 e2 e3 hs hl2 hx names [] F1 _ rfl hl rfl rfl rfl rfl ?_ ?_
  ·intro t' j hr g4
   have q1 : leIK 0 (j : Int) = true := le_0 _
   obtain ⟨f_t, rfl⟩ := mkT_form [(4, _)] ⟨g4, trivial⟩
   conv => arg 2; whnf
   refine Ok.ret ?_
   conv => arg 2; whnf
   exact Ok.done ⟨(show V.bool (leIK 0 (j : Int)) = _ by rw [q1, hr]; rfl), rfl, rfl⟩
  ·intro t' hr
   conv => arg 2; whnf
   refine Ok.ret ?_
   conv => arg 2; whnf
   exact Ok.done ⟨by rw [hr]; rfl, rfl, rfl⟩
end
end Go.Fm
set_option maxHeartbeats 8000000
namespace Go.Fm
theorem NamesV.len {nv : V} {names : List Bs} {m : Mem} (h : NamesV nv names m) : LenV nv names.length := by
 rcases h with ⟨rfl, rfl⟩ | ⟨id, off, cap, rfl, _⟩
 ·exact .inl ⟨rfl, rfl⟩
 ·exact .inr ⟨id, off, cap, 1, rfl⟩
def LowV (nv : V) (n : Nat) : Prop := ∀ id off l cap, nv = .sl id off l cap 1 → id < n
theorem NamesV.keep {nv : V} {names : List Bs} {m m' : Mem} {n : Nat} (h : NamesV nv names m) (hn : LowV nv n) (hm : ∀ j, j < n → m'.get j = m.get j) : NamesV nv names m' := by
 rcases h with h | ⟨id, off, cap, rfl, h⟩
 ·exact .inl h
 ·exact .inr ⟨id, off, cap, rfl, h.imp (fun h => h) fun h => h.keep (hm id (hn _ _ _ _ rfl))⟩
def evV (e : EvG) (nv vv : V) : V := .agg [vi e.num, vs' e.kind, nv, vv, vs' e.text]
theorem one_ev {e : EvG} {nv vv : V} {a b : Nat} (h1 : LenV nv a) (h2 : LenV vv b) : allOne [vi e.num, vs' e.kind, nv, vv, vs' e.text] = true := by
 rcases h1 with ⟨rfl, _⟩ | ⟨_, _, _, _, rfl⟩ <;> rcases h2 with ⟨rfl, _⟩ | ⟨_, _, _, _, rfl⟩ <;> rfl
structure Few (e : EvG) : Prop where
 hn : e.names.length ≤ 100000
 hx : ∀ x ∈ e.names, x.length ≤ 100000
 hk : e.kind.length ≤ 100000
 ht : e.text.length ≤ 100000
 hv : e.vals ≤ 100000
section
variable {E : Env'} {Q : V → Mem → Nat → Prop}
attribute [local irreducible] Ok callK loopK lenL nthL takeL dropL eqBs getM putM appVC evM cutK
theorem cE0 {e : EvG} {nv vv : V} : cutK (Nat.add 0 0) 1 [vi e.num, vs' e.kind, nv, vv, vs' e.text] = some [vi e.num] := by rw [cutK_eq]; rfl
theorem cE1 {e : EvG} {nv vv : V} : cutK (Nat.add 0 1) 1 [vi e.num, vs' e.kind, nv, vv, vs' e.text] = some [vs' e.kind] := by rw [cutK_eq]; rfl
theorem cE2 {e : EvG} {nv vv : V} : cutK (Nat.add 0 2) 1 [vi e.num, vs' e.kind, nv, vv, vs' e.text] = some [nv] := by rw [cutK_eq]; rfl
theorem cE3 {e : EvG} {nv vv : V} : cutK (Nat.add 0 3) 1 [vi e.num, vs' e.kind, nv, vv, vs' e.text] = some [vv] := by rw [cutK_eq]; rfl
theorem cE4 {e : EvG} {nv vv : V} : cutK (Nat.add 0 4) 1 [vi e.num, vs' e.kind, nv, vv, vs' e.text] = some [vs' e.text] := by rw [cutK_eq]; rfl
theorem cE5 {e : EvG} {nv vv : V} : cutK 0 5 [vi e.num, vs' e.kind, nv, vv, vs' e.text] = some [vi e.num, vs' e.kind, nv, vv, vs' e.text] := by rw [cutK_eq]; rfl
theorem chk62_loop (h133 : E.nat.get 36 = some tNameS) {F F1 : Nat} (e1 : F = F1 + 1) {kN kR : KKN} {kE : Nat → KKN} {fi : List FI} {e : EvG} {nv vv : V} {p n : Nat} {m : Mem} {tx : Bool} (hp : p ≤ 262143) (g1 : m.get p = some (.cells [vi e.num, vs' e.kind, nv, vv, vs' e.text] 25)) (hs : NamesV nv e.names m) (hf : Few e) :
  ∀ (r a : List Bs) (K : Nat) (t : Tr 3 V), a ++ r = e.names → r.length < K → t.get 1 = some (.ptr p 0) → t.get 3 = some (vi e.names.length) → t.get 4 = some (.bool tx) → t.get 6 = some (vi a.length) →
  (∀ t', r.all isNameS = false → t'.get 2 = some (vi 8) → Ok Q (kR t' m n fi)) → (∀ t', r.all isNameS = true → t'.get 1 = some (.ptr p 0) → t'.get 4 = some (.bool tx) → Ok Q (kE 0 t' m n fi)) → Ok Q (loopK (comp E bd62).run F (callK E F) kN kE kR K t m n fi) := by
 intro r
 induction r with
 | nil =>
  intro a K t ha hK t1 t3 t4 t6 H1 H2
  obtain ⟨K, rfl⟩ : ∃ k', K = k' + 1 := ⟨K - 1, by omega⟩
  rw [loopK_succ]
  have q1 : ltIK (a.length : Int) (e.names.length : Int) = false := ltIK_ff (by rw [← ha]; simp)
  obtain ⟨f_t, rfl⟩ := mkT_form [(1, _), (3, _), (4, _), (6, _)] ⟨t1, t3, t4, t6, trivial⟩
  conv => arg 2; whnf
  repeat ((first | refine Ok.ff (by with_reducible first | exact q1) ?_); conv => arg 2; whnf)
  refine H2 _ rfl ?_ ?_
  ·rfl
  ·rfl
 | cons c r ih =>
  intro a K t ha hK t1 t3 t4 t6 H1 H2
  obtain ⟨K, rfl⟩ : ∃ k', K = k' + 1 := ⟨K - 1, by omega⟩
  rw [loopK_succ]
  obtain ⟨_, he⟩ | ⟨id, off, cap, hnv, hs'⟩ := hs
  ·rw [he] at ha; simp at ha
  subst hnv
  have hs' := hs'.resolve_left (by rw [← ha]; simp)
  have hlen : a.length < e.names.length := by rw [← ha]; simp
  have hn := hf.hn
  have q1 : ltIK (a.length : Int) (e.names.length : Int) = true := ltIK_tt (by omega)
  have q2 : Nat.blt a.length e.names.length = true := Nat.ble_eq_true_of_le hlen
  have hi : e.names[a.length]? = some c := by rw [← ha]; simp
  have ho : Nat.add off (Nat.mul a.length 1) = off + a.length := by show off + a.length * 1 = _; omega
  have hc := hf.hx c (List.mem_of_getElem? hi)
  cases ec : isNameS c with
  | false =>
   have e28 := tNameS_at ec hc
   obtain ⟨f_t, rfl⟩ := mkT_form [(1, _), (3, _), (4, _), (6, _)] ⟨t1, t3, t4, t6, trivial⟩
   conv => arg 2; whnf
   repeat ((first | refine Ok.tt (by with_reducible first | exact q1 | exact q2) ?_ | refine Ok.ld1 g1 (by omega) (by with_reducible first | exact cE2) ?_ | refine Ok.ldS hs' hi ho ?_ | refine Ok.opt (callK_natE h133 e1 e28 _ _) ?_); conv => arg 2; whnf)
   refine H1 _ (by simp [ec]) ?_
   rfl
  | true =>
   have e28 := tNameS_at ec hc
   obtain ⟨f_t, rfl⟩ := mkT_form [(1, _), (3, _), (4, _), (6, _)] ⟨t1, t3, t4, t6, trivial⟩
   conv => arg 2; whnf
   repeat ((first | refine Ok.tt (by with_reducible first | exact q1 | exact q2) ?_ | refine Ok.ld1 g1 (by omega) (by with_reducible first | exact cE2) ?_ | refine Ok.ldS hs' hi ho ?_ | refine Ok.opt (callK_natE h133 e1 e28 _ _) ?_); conv => arg 2; whnf)
   refine ih (a ++ [c]) K _ (by rw [← ha]; simp) (by simp at hK; omega) ?_ ?_ ?_ ?_ ?_ ?_
   ·rfl
   ·rfl
   ·rfl
   ·exact res_int ((wrap1 (by omega)).trans (by simp))
   ·intro t' hr g2
    exact H1 t' (by simp [hr]) g2
   ·intro t' hr g1 g4
    exact H2 t' (by simp [ec, hr]) g1 g4
theorem g62 (h : Has E 9 fn62) (h131 : E.nat.get 35 = some tKSize) (h133 : E.nat.get 36 = some tNameS) {e : EvG} {nv vv : V} {m : Mem} {n : Nat} (hn : n ≤ 200000) (hs : NamesV nv e.names m) (hlow : LowV nv n) (hv : LenV vv e.vals) (hf : Few e) {K F F1 : Nat} (e0 : K = F + 1) (e1 : F = F1 + 1) (hF : e.names.length < F) :
  Ok (fun v m' n' => v = vi (chkG e) ∧ (∀ j, j < n → m'.get j = m.get j) ∧ n' = n + 1) (callK E K (.f 9) [evV e nv vv] m n) := by
 refine h.run e0 (show 1 ≤ 58 by omega) ?_
 unfold evV
 have hl := hs.len
 have hfn := hf.hn
 have hfv := hf.hv
 have hft := hf.ht
 have fin : ∀ {m1 : Mem} {k : Nat}, (∀ j, m1.get j = if j = n then some (.cells [vi e.num, vs' e.kind, nv, vv, vs' e.text] 25) else m.get j) → chkG e = k → (vi (k : Int) = vi (chkG e) ∧ (∀ j, j < n → m1.get j = m.get j) ∧ n + 1 = n + 1) := by
  intro m1 k hm1 hk
  exact ⟨by rw [hk], fun j hj => by rw [hm1, if_neg (by omega)], rfl⟩
 conv => arg 2; whnf
 refine Ok.putM (by omega) fun m1 hm1 => ?_
 have g1 : m1.get n = some (.cells [vi e.num, vs' e.kind, nv, vv, vs' e.text] 25) := by (rw [hm1, if_pos rfl]) <;> rfl
 have hs1 : NamesV nv e.names m1 := hs.keep hlow fun j hj => by rw [hm1, if_neg (by omega)]
 conv => arg 2; whnf
 by_cases h1 : e.num < 1
 ·have q1 : ltIK e.num 1 = true := ltIK_tt h1
  repeat ((first | refine Ok.tt (by with_reducible first | exact q1) ?_ | refine Ok.ld1 g1 (by omega) (by with_reducible first | exact cE0) ?_); conv => arg 2; whnf)
  exact Ok.done (fin hm1 (k := 3) (by unfold chkG; rw [if_pos (.inl h1)]))
 have q1 : ltIK e.num 1 = false := ltIK_ff (by omega)
 by_cases h2 : 1000 < e.num
 ·have q2 : ltIK 1000 e.num = true := ltIK_tt (by omega)
  repeat ((first | refine Ok.tt (by with_reducible first | exact q2) ?_ | refine Ok.ff (by with_reducible first | exact q1) ?_ | refine Ok.ld1 g1 (by omega) (by with_reducible first | exact cE0) ?_); conv => arg 2; whnf)
  exact Ok.done (fin hm1 (k := 3) (by unfold chkG; rw [if_pos (.inr h2)]))
 have q2 : ltIK 1000 e.num = false := ltIK_ff (by omega)
 have hnum : ¬ (e.num < 1 ∨ 1000 < e.num) := by omega
 cases hk : formS e.kind with
 | none =>
  have e131 := tKSize_no hk hf.hk
  repeat ((first | refine Ok.ff (by with_reducible first | exact q1 | exact q2) ?_ | refine Ok.ld1 g1 (by omega) (by with_reducible first | exact cE0 | exact cE1) ?_ | refine Ok.opt (callK_natE h131 e1 e131 _ _) ?_); conv => arg 2; whnf)
  exact Ok.done (fin hm1 (k := 14) (by unfold chkG; rw [if_neg hnum, hk]))
 | some f =>
  obtain ⟨k, tx⟩ := f
  have e131 := tKSize_at hk hf.hk
  by_cases h3 : e.names.length = k
  ·subst h3
   have q3 : (nB (eqIK (Int.ofNat e.names.length) (e.names.length : Int))) = false := by rw [show (Int.ofNat e.names.length) = (e.names.length : Int) from rfl, eqIK_tt rfl]
   by_cases h4 : 0 < e.vals
   ·have q4 : ltIK 0 (Int.ofNat e.vals) = true := ltIK_tt (by show (0 : Int) < (e.vals : Int); omega)
    repeat ((first | refine Ok.tt (by with_reducible first | exact q4) ?_ | refine Ok.ff (by with_reducible first | exact q1 | exact q2 | exact q3) ?_ | refine Ok.ld1 g1 (by omega) (by with_reducible first | exact cE0 | exact cE1 | exact cE2 | exact cE3) ?_ | refine Ok.opt (callK_natE h131 e1 e131 _ _) ?_ | refine Ok.lenV hl rfl (fun _ _ _ _ => rfl) rfl ?_ | refine Ok.lenV hv rfl (fun _ _ _ _ => rfl) rfl ?_); conv => arg 2; whnf)
    exact Ok.done (fin hm1 (k := 2) (by unfold chkG; rw [if_neg hnum, hk]; simp [h4]))
   have q4 : ltIK 0 (Int.ofNat e.vals) = false := ltIK_ff (by show (e.vals : Int) ≤ 0; omega)
   repeat ((first | refine Ok.ff (by with_reducible first | exact q1 | exact q2 | exact q3 | exact q4) ?_ | refine Ok.ld1 g1 (by omega) (by with_reducible first | exact cE0 | exact cE1 | exact cE2 | exact cE3) ?_ | refine Ok.opt (callK_natE h131 e1 e131 _ _) ?_ | refine Ok.lenV hl rfl (fun _ _ _ _ => rfl) rfl ?_ | refine Ok.lenV hv rfl (fun _ _ _ _ => rfl) rfl ?_); conv => arg 2; whnf)
   refine chk62_loop (E := E) h133 e1 (p := n) (tx := tx) (by omega) g1 hs1 hf e.names [] F _ rfl hF ?_ ?_ ?_ ?_ ?_ ?_
   ·rfl
   ·rfl
   ·rfl
   ·rfl
   ·intro t' hr t'2
    obtain ⟨f_tp, rfl⟩ := mkT_form [(2, _)] ⟨t'2, trivial⟩
    conv => arg 2; whnf
    exact Ok.done (fin hm1 (k := 8) (by unfold chkG; rw [if_neg hnum, hk]; simp [h4, hr]))
   ·intro t' hr g1' g4
    have hch : chkG e = if tx = false ∧ e.text ≠ [] then 1 else if 4096 < e.text.length then 29 else 0 := by unfold chkG; rw [if_neg hnum, hk]; simp [h4, hr]
    have hL : Int.ofNat (lenL e.text) = ((e.text.length : Nat) : Int) := by rw [lenL_eq]; rfl
    obtain ⟨f_t, rfl⟩ := mkT_form [(1, _), (4, _)] ⟨g1', g4, trivial⟩
    cases tx with
    | true =>
     by_cases h5 : 4096 < e.text.length
     ·have q5 : ltIK 4096 (Int.ofNat (lenL e.text)) = true := by rw [hL]; exact ltIK_tt (by omega)
      conv => arg 2; whnf
      repeat ((first | refine Ok.tt (by with_reducible first | exact q5) ?_ | refine Ok.ld1 g1 (by omega) (by with_reducible first | exact cE4) ?_); conv => arg 2; whnf)
      exact Ok.done (fin hm1 (k := 29) (by rw [hch]; simp [h5]))
     ·have q5 : ltIK 4096 (Int.ofNat (lenL e.text)) = false := by rw [hL]; exact ltIK_ff (by omega)
      conv => arg 2; whnf
      repeat ((first | refine Ok.ff (by with_reducible first | exact q5) ?_ | refine Ok.ld1 g1 (by omega) (by with_reducible first | exact cE4) ?_); conv => arg 2; whnf)
      exact Ok.done (fin hm1 (k := 0) (by rw [hch]; simp [h5]))
    | false =>
     by_cases h6 : e.text = []
     ·have q6 : (nB (eqBs e.text [])) = false := by rw [eqB_t h6]
      have q5 : ltIK 4096 (Int.ofNat (lenL e.text)) = false := by rw [hL, h6]; exact ltIK_ff (by simp)
      conv => arg 2; whnf
      repeat ((first | refine Ok.ff (by with_reducible first | exact q5 | exact q6) ?_ | refine Ok.ld1 g1 (by omega) (by with_reducible first | exact cE4) ?_); conv => arg 2; whnf)
      exact Ok.done (fin hm1 (k := 0) (by rw [hch]; simp [h6]))
     ·have q6 : (nB (eqBs e.text [])) = true := by rw [eqB_f h6]
      conv => arg 2; whnf
      repeat ((first | refine Ok.tt (by with_reducible first | exact q6) ?_ | refine Ok.ld1 g1 (by omega) (by with_reducible first | exact cE4) ?_); conv => arg 2; whnf)
      exact Ok.done (fin hm1 (k := 1) (by rw [hch]; simp [h6]))
  ·have q3 : (nB (eqIK (Int.ofNat e.names.length) (k : Int))) = true := by rw [eqIK_ff (by show ¬ (e.names.length : Int) = (k : Int); omega)]
   repeat ((first | refine Ok.tt (by with_reducible first | exact q3) ?_ | refine Ok.ff (by with_reducible first | exact q1 | exact q2) ?_ | refine Ok.ld1 g1 (by omega) (by with_reducible first | exact cE0 | exact cE1 | exact cE2 | exact cE3) ?_ | refine Ok.opt (callK_natE h131 e1 e131 _ _) ?_ | refine Ok.lenV hl rfl (fun _ _ _ _ => rfl) rfl ?_ | refine Ok.lenV hv rfl (fun _ _ _ _ => rfl) rfl ?_); conv => arg 2; whnf)
   exact Ok.done (fin hm1 (k := 2) (by unfold chkG; rw [if_neg hnum, hk]; simp [h3]))
end
end Go.Fm
set_option maxHeartbeats 8000000
namespace Go.Fm
theorem LenV.same {nv : V} {k : Nat} (h : LenV nv k) : V.same nv nv = true := by
 rcases h with ⟨rfl, _⟩ | ⟨_, _, _, _, rfl⟩
 ·rfl
 ·simp [V.same, same1]
def FormAt (kd : Bs) (k : Nat) (tx is : Bool) : Prop := (formS kd = none ∧ k = 0 ∧ tx = false ∧ is = false) ∨ (formS kd = some (k, tx) ∧ is = true)
theorem form_at {kd : Bs} (hl : kd.length ≤ 100000) : ∃ k tx is, FormAt kd k tx is ∧ tForm [vs' kd] = some (.tup [.agg [vi (k : Nat), .bool tx], .bool is]) := by
 cases h : formS kd with
 | none => exact ⟨0, false, false, .inl ⟨h, rfl, rfl, rfl⟩, tForm_no h hl⟩
 | some f => exact ⟨f.1, f.2, true, .inr ⟨h, rfl⟩, tForm_at h hl⟩
theorem chkG_first {e : EvG} {k : Nat} {tx is b1 b3 b4 b5 b6 : Bool} (hf : FormAt e.kind k tx is) (h1 : b1 = decide (e.num < 1 ∨ 1000 < e.num)) (h3 : b3 = decide (e.names.length ≠ k ∨ 0 < e.vals)) (h4 : b4 = !e.names.all isNameS) (h5 : b5 = decide (tx = false ∧ e.text ≠ [])) (h6 : b6 = decide (4096 < e.text.length)) :
  firstN [if b1 = true then 3 else 0, if (nB is) = true then 14 else 0, if b3 = true then 2 else 0, if b4 = true then 8 else 0, if b5 = true then 1 else 0, if b6 = true then 29 else 0] = (chkG e : Int) := by
 subst h1 h3 h4 h5 h6
 unfold chkG
 by_cases c1 : e.num < 1 ∨ 1000 < e.num
 ·simp [c1, firstN]
 rcases hf with ⟨hf, rfl, rfl, rfl⟩ | ⟨hf, rfl⟩
 ·simp [c1, firstN, hf]
 ·rw [if_neg c1, hf]
  by_cases c3 : e.names.length ≠ k ∨ 0 < e.vals
  ·simp [c1, c3, firstN]
  ·by_cases c4 : e.names.all isNameS = true
   ·by_cases c5 : tx = false ∧ e.text ≠ []
    ·simp only [c1, c3, c4, firstN, decide_eq_true c5]; simp [c5]
    ·have c5' := decide_eq_false c5
     by_cases c6 : 4096 < e.text.length
     ·simp only [c1, c3, c4, c5', if_neg c5, c6, firstN]; simp
     ·simp only [c1, c3, c4, c5', if_neg c5, c6, firstN]; simp
   ·have c4' : e.names.all isNameS = false := by simpa using c4
    simp only [c1, c3, c4', firstN]; simp
section
variable {E : Env'} {Q : V → Mem → Nat → Prop}
attribute [local irreducible] Ok callK loopK lenL nthL takeL dropL eqBs getM putM appVC evM cutK
theorem g56 (h : Has E 27 fn56) (h46 : E.nat.get 65 = some tForm) (h22 : E.nat.get 30 = some tWhen) (h21 : Has E 29 fn21) (h114 : Has E 70 fn114) (h203 : Has E 139 fn203) (h129 : Has E 71 fn129) (h28 : E.nat.get 47 = some tNameS)
  {e : EvG} {nv vv : V} {m : Mem} {n : Nat} (hn : n ≤ 200000) (hs : NamesV nv e.names m) (hlow : LowV nv n) (hv : LenV vv e.vals) (hf : Few e) {K F F1 F2 F3 F4 : Nat} (e0 : K = F + 1) (e1 : F = F1 + 1) (e2 : F1 = F2 + 1) (e3 : F2 = F3 + 1) (e4 : F3 = F4 + 1) (hF : e.names.length + 10 < F2) :
  Ok (fun v m' n' => v = vi (chkG e) ∧ (∀ j, j < n → m'.get j = m.get j) ∧ n' = n + 3) (callK E K (.f 27) [evV e nv vv] m n) := by
 obtain ⟨k, tx, is, hfo, eform⟩ := form_at hf.hk
 obtain ⟨b1, q1⟩ : ∃ b, ltIK e.num 1 = b := ⟨_, rfl⟩
 obtain ⟨b3, q3⟩ : ∃ b, (nB (eqIK (Int.ofNat e.names.length) (k : Int))) = b := ⟨_, rfl⟩
 refine h.run e0 (show 1 ≤ 56 by omega) ?_
 unfold evV
 have hl := hs.len
 have hfn := hf.hn
 have hfv := hf.hv
 have hft := hf.ht
 conv => arg 2; whnf
 refine Ok.putM (by omega) fun m1 hm1 => ?_
 have g1 : m1.get n = some (.cells [vi e.num, vs' e.kind, nv, vv, vs' e.text] 25) := by (rw [hm1, if_pos rfl]) <;> rfl
 conv => arg 2; whnf
 repeat ((first | refine Ok.ld1 g1 (by omega) (by with_reducible first | exact cE0 | exact cE1) ?_ | refine Ok.opt (callK_natE h46 e1 eform _ _) ?_); conv => arg 2; whnf)
 refine Ok.putM (by omega) fun m2 hm2 => ?_
 have g2 : m2.get (n + 1) = some (.cells [vi 0, .bool false] 155) := by (rw [hm2, if_pos rfl]) <;> rfl
 conv => arg 2; whnf
 refine Ok.getM g2 (by omega) ?_
 conv => arg 2; whnf
 refine Ok.putM (by omega) fun m3 hm3 => ?_
 have g3 : m3.get (n + 1) = some (.cells [vi (k : Nat), .bool tx] 155) := by (rw [hm3, if_pos rfl]) <;> rfl
 have g1 : m3.get n = some (.cells [vi e.num, vs' e.kind, nv, vv, vs' e.text] 25) := by rw [hm3, if_neg (by omega), hm2, if_neg (by omega)]; exact g1
 have hk3 : ∀ j, j < n → m3.get j = m.get j := fun j hj => by rw [hm3, if_neg (by omega), hm2, if_neg (by omega), hm1, if_neg (by omega)]
 have hs3 : NamesV nv e.names m3 := hs.keep hlow hk3
 conv => arg 2; whnf
 have hsame := hl.same
 have cF0 : cutK (Nat.add 0 0) 1 [vi (k : Nat), .bool tx] = some [vi (k : Nat)] := by rw [cutK_eq]; rfl
 have cF1 : cutK (Nat.add 0 1) 1 [vi (k : Nat), .bool tx] = some [.bool tx] := by rw [cutK_eq]; rfl
 have B1t : b1 = true → true = decide (e.num < 1 ∨ 1000 < e.num) := fun hb => by
  rw [hb, ltIK_eq] at q1; exact (decide_eq_true (.inl (of_decide_eq_true q1))).symm
 have B1f : b1 = false → ltIK 1000 e.num = decide (e.num < 1 ∨ 1000 < e.num) := fun hb => by
  rw [hb, ltIK_eq] at q1; have := of_decide_eq_false q1; rw [ltIK_eq, show ltI 1000 e.num = decide (1000 < e.num) from rfl]; simp [this]
 have q3' : b3 = decide (e.names.length ≠ k) := by
  rw [← q3, show (Int.ofNat e.names.length) = (e.names.length : Int) from rfl]
  by_cases c : e.names.length = k
  ·rw [c, eqIK_tt rfl]; simp
  ·rw [eqIK_ff (by omega)]; simp [c]
 have B3t : b3 = true → true = decide (e.names.length ≠ k ∨ 0 < e.vals) := fun hb => by
  rw [hb] at q3'; exact (decide_eq_true (.inl (of_decide_eq_true q3'.symm))).symm
 have B3f : b3 = false → ltIK 0 (Int.ofNat e.vals) = decide (e.names.length ≠ k ∨ 0 < e.vals) := fun hb => by
  rw [hb] at q3'; have := of_decide_eq_false q3'.symm
  rw [ltIK_eq]
  by_cases c : 0 < e.vals
  ·rw [decide_eq_true (.inr c)]; exact decide_eq_true (by show (0 : Int) < (e.vals : Int); omega)
  ·rw [decide_eq_false (by rintro (x | x); exact this x; exact c x)]; exact decide_eq_false (by show ¬ (0 : Int) < (e.vals : Int); omega)
 have B5t : tx = true → false = decide (tx = false ∧ e.text ≠ []) := fun hb => by rw [hb]; simp
 have B5f : tx = false → (nB (eqBs e.text [])) = decide (tx = false ∧ e.text ≠ []) := fun hb => by
  by_cases c : e.text = []
  ·rw [eqB_t c, decide_eq_false (by rintro ⟨_, x⟩; exact x c)]
  ·rw [eqB_f c, decide_eq_true ⟨hb, c⟩]
 have B6 : ltIK 4096 (Int.ofNat (lenL e.text)) = decide (4096 < e.text.length) := by
  rw [ltIK_eq, lenL_eq]
  by_cases c : 4096 < e.text.length
  ·rw [decide_eq_true c]; exact decide_eq_true (by show (4096 : Int) < (e.text.length : Int); omega)
  ·rw [decide_eq_false c]; exact decide_eq_false (by show ¬ (4096 : Int) < (e.text.length : Int); omega)
 have w22 : ∀ (b : Bool) (x : Int), tWhen [.bool b, vi x] = some (vi (if b = true then x else 0)) := fun _ _ => rfl
 cases b1
 all_goals cases b3
 all_goals cases tx
 all_goals
  repeat ((first | refine Ok.tt (by with_reducible first | exact q1) ?_ | refine Ok.ff (by with_reducible first | exact q1) ?_ | refine Ok.ld1 g1 (by omega) (by with_reducible first | exact cE0 | exact cE1 | exact cE2 | exact cE3 | exact cE4) ?_ | refine Ok.ld1 g3 (by omega) (by with_reducible first | exact cF0 | exact cF1) ?_ | refine Ok.lenV hl rfl (fun _ _ _ _ => rfl) rfl ?_ | refine Ok.lenV hv rfl (fun _ _ _ _ => rfl) rfl ?_); conv => arg 2; whnf)
  refine Ok.opt (callK_natE h22 e1 (w22 _ _) _ _) ?_
  conv => arg 2; whnf
  refine Ok.tt ?_ ?_
  ·repeat (first | with_reducible exact recs_nil | refine recs1 rfl rfl ?_ ?_)
   all_goals first | exact recs_nil | ((conv => arg 2; whnf); (first | refine Ok.ld1 g1 (by omega) (by with_reducible first | exact cE0 | exact cE1 | exact cE2 | exact cE3 | exact cE4) ?_ | refine Ok.ld1 g3 (by omega) (by with_reducible first | exact cF0 | exact cF1) ?_); refine Ok.done ?_; (first | exact hsame | rfl | (show V.same _ _ = true; simp [V.same, sameL, same1, vs', vi, nvOf])))
  conv => arg 2; whnf
  refine Ok.opt (callK_natE h22 e1 (w22 _ _) _ _) ?_
  conv => arg 2; whnf
  refine Ok.tt ?_ ?_
  ·repeat (first | with_reducible exact recs_nil | refine recs1 rfl rfl ?_ ?_)
   all_goals first | exact recs_nil | ((conv => arg 2; whnf); (first | refine Ok.ld1 g1 (by omega) (by with_reducible first | exact cE0 | exact cE1 | exact cE2 | exact cE3 | exact cE4) ?_ | refine Ok.ld1 g3 (by omega) (by with_reducible first | exact cF0 | exact cF1) ?_); refine Ok.done ?_; (first | exact hsame | rfl | (show V.same _ _ = true; simp [V.same, sameL, same1, vs', vi, nvOf])))
  conv => arg 2; whnf
  repeat ((first | refine Ok.tt (by with_reducible first | exact q3) ?_ | refine Ok.ff (by with_reducible first | exact q3) ?_ | refine Ok.ld1 g1 (by omega) (by with_reducible first | exact cE0 | exact cE1 | exact cE2 | exact cE3 | exact cE4) ?_ | refine Ok.ld1 g3 (by omega) (by with_reducible first | exact cF0 | exact cF1) ?_ | refine Ok.lenV hl rfl (fun _ _ _ _ => rfl) rfl ?_ | refine Ok.lenV hv rfl (fun _ _ _ _ => rfl) rfl ?_); conv => arg 2; whnf)
  refine Ok.opt (callK_natE h22 e1 (w22 _ _) _ _) ?_
  conv => arg 2; whnf
  refine Ok.tt ?_ ?_
  ·repeat (first | with_reducible exact recs_nil | refine recs1 rfl rfl ?_ ?_)
   all_goals first | exact recs_nil | ((conv => arg 2; whnf); (first | refine Ok.ld1 g1 (by omega) (by with_reducible first | exact cE0 | exact cE1 | exact cE2 | exact cE3 | exact cE4) ?_ | refine Ok.ld1 g3 (by omega) (by with_reducible first | exact cF0 | exact cF1) ?_); refine Ok.done ?_; (first | exact hsame | rfl | (show V.same _ _ = true; simp [V.same, sameL, same1, vs', vi, nvOf])))
  conv => arg 2; whnf
  refine Ok.sub (g114 h114 h203 h129 h28 e1 e2 e3 e4 hs3 (by omega) hfn hf.hx) fun v m' n' hq => ?_
  obtain ⟨rfl, rfl, rfl⟩ := hq
  conv => arg 2; whnf
  refine Ok.tt ?_ ?_
  ·repeat (first | with_reducible exact recs_nil | refine recs1 rfl rfl ?_ ?_)
   all_goals first | exact recs_nil | ((conv => arg 2; whnf); (first | refine Ok.ld1 g1 (by omega) (by with_reducible first | exact cE0 | exact cE1 | exact cE2 | exact cE3 | exact cE4) ?_ | refine Ok.ld1 g3 (by omega) (by with_reducible first | exact cF0 | exact cF1) ?_); refine Ok.done ?_; (first | exact hsame | rfl | (show V.same _ _ = true; simp [V.same, sameL, same1, vs', vi, nvOf])))
  conv => arg 2; whnf
  refine Ok.opt (callK_natE h22 e1 (w22 _ _) _ _) ?_
  conv => arg 2; whnf
  refine Ok.tt ?_ ?_
  ·repeat (first | with_reducible exact recs_nil | refine recs1 rfl rfl ?_ ?_)
   all_goals first | exact recs_nil | ((conv => arg 2; whnf); (first | refine Ok.ld1 g1 (by omega) (by with_reducible first | exact cE0 | exact cE1 | exact cE2 | exact cE3 | exact cE4) ?_ | refine Ok.ld1 g3 (by omega) (by with_reducible first | exact cF0 | exact cF1) ?_); refine Ok.done ?_; (first | exact hsame | rfl | (show V.same _ _ = true; simp [V.same, sameL, same1, vs', vi, nvOf])))
  conv => arg 2; whnf
  repeat ((first | refine Ok.ld1 g1 (by omega) (by with_reducible first | exact cE0 | exact cE1 | exact cE2 | exact cE3 | exact cE4) ?_ | refine Ok.ld1 g3 (by omega) (by with_reducible first | exact cF0 | exact cF1) ?_); conv => arg 2; whnf)
  refine Ok.opt (callK_natE h22 e1 (w22 _ _) _ _) ?_
  conv => arg 2; whnf
  refine Ok.tt ?_ ?_
  ·repeat (first | with_reducible exact recs_nil | refine recs1 rfl rfl ?_ ?_)
   all_goals first | exact recs_nil | ((conv => arg 2; whnf); (first | refine Ok.ld1 g1 (by omega) (by with_reducible first | exact cE0 | exact cE1 | exact cE2 | exact cE3 | exact cE4) ?_ | refine Ok.ld1 g3 (by omega) (by with_reducible first | exact cF0 | exact cF1) ?_); refine Ok.done ?_; (first | exact hsame | rfl | (show V.same _ _ = true; simp [V.same, sameL, same1, vs', vi, nvOf])))
  conv => arg 2; whnf
  refine Ok.opt (callK_natE h22 e1 (w22 _ _) _ _) ?_
  conv => arg 2; whnf
  refine Ok.tt (Nat.ble_eq_true_of_le (by omega)) ?_
  conv => arg 2; whnf
  refine Ok.putM (by omega) fun m4 hm4 => ?_
  conv => arg 2; whnf
  have g4 := (hm4 n.succ.succ).trans (if_pos rfl)
  refine Ok.sub (g21six h21 g4 (by omega) e1 (by omega)) fun v m5 n5 hq => ?_
  obtain ⟨rfl, rfl, rfl⟩ := hq
  conv => arg 2; whnf
  refine Ok.done ⟨congrArg vi (chkG_first hfo ?_ ?_ rfl ?_ B6), fun j hj => (hm4 j).trans ((if_neg (by omega)).trans (hk3 j hj)), rfl⟩
  ·first | exact B1t rfl | exact B1f rfl
  ·first | exact B3t rfl | exact B3f rfl
  ·first | exact B5t rfl | exact B5f rfl
end
end Go.Fm
namespace Go.Fm
theorem chkG_N {num : Nat} {kd text : Bs} {names : List Bs} (hk : ChkOk num kd names text) : chkG ⟨num, kd, names, 0, text⟩ = chkN num names text := by
 obtain ⟨h1, h2, h3, h4, h5, t, h6, h7⟩ := hk
 unfold chkG chkN
 simp only [h6]
 by_cases c1 : num < 1
 ·rw [if_pos (.inl (by omega)), if_pos c1]
 by_cases c2 : 1000 < num
 ·rw [if_pos (.inr (by omega)), if_neg c1, if_pos c2]
 have ht : ¬ (t = false ∧ text ≠ []) := fun h => h.2 (h7 h.1)
 rw [if_neg (by omega), if_neg c1, if_neg c2, if_neg (show ¬ (names.length ≠ names.length ∨ 0 < 0) by simp)]
 by_cases ha : names.all isNameS = false
 ·rw [if_pos ha, if_pos ha]
 ·rw [if_neg ha, if_neg ha, if_neg ht]
theorem nv_of {names : List Bs} : NamesV (nvOf names) names (memOf (preOf names)) ∧ LowV (nvOf names) (if names = [] then 0 else 1) := by
 cases names with
 | nil => exact ⟨.inl ⟨rfl, rfl⟩, fun _ _ _ _ h => by cases h⟩
 | cons a r =>
  refine ⟨.inr ⟨0, 0, none, rfl, .inr ⟨by omega, .cells ((a :: r).map vs') 9, (a :: r).map vs', ?_, fun _ => rfl, fun i x hx => ?_⟩⟩, fun i _ _ _ h => ?_⟩
  ·show (memOf [(0, _)]).get 0 = _
   rw [memOf_1]; rfl
  ·rw [Nat.zero_add, List.getElem?_map, hx]; rfl
  ·injection h with h; subst h; rw [if_neg (by simp)]; omega
theorem keep_of {names : List Bs} {m' : Mem} (h : ∀ j, j < (if names = [] then 0 else 1) → m'.get j = (memOf (preOf names)).get j) : KeepN names m' := by
 cases names with
 | nil => exact .inl rfl
 | cons a r =>
  refine .inr ((h 0 (by rw [if_neg (by simp)]; omega)).trans ?_)
  show (memOf [(0, _)]).get 0 = _
  rw [memOf_1]; rfl
theorem few_of {num : Nat} {kd text : Bs} {names : List Bs} (hk : ChkOk num kd names text) : Few ⟨num, kd, names, 0, text⟩ := by
 obtain ⟨h1, h2, h3, h4, h5, t, h6, h7⟩ := hk
 have hl : names.length ≤ 2 := by
  unfold formS at h6
  repeat' split at h6
  all_goals first | (cases h6; done) | (injection h6 with h6; injection h6 with h8 _; omega)
 exact ⟨by show names.length ≤ 100000; omega, h5, h3, h4, by show 0 ≤ 100000; omega⟩
section
variable [Ctx] {P : Program} {E : Env'}
theorem ms_chkR (hE : EnvOk P E) (h : Has E 9 fn62) (h131 : E.nat.get 35 = some tKSize) (h133 : E.nat.get 36 = some tNameS) : MSpec P 9 tChk := by
 refine ms_chk hE fun num kd text names hk => ⟨names.length + 5, ?_⟩
 refine (g62 h h131 h133 (e := ⟨num, kd, names, 0, text⟩) (nv := nvOf names) (vv := .nils) (by split <;> omega) nv_of.1 nv_of.2 (.inl ⟨rfl, rfl⟩) (few_of hk) rfl rfl (by show names.length < names.length + 4; omega)).mono fun v m' n' hq => ⟨?_, keep_of hq.2.1⟩
 rw [hq.1, chkG_N hk]
theorem ms_chkP (hE : EnvOk P E) (h : Has E 27 fn56) (h46 : E.nat.get 65 = some tForm) (h22 : E.nat.get 30 = some tWhen) (h21 : Has E 29 fn21) (h114 : Has E 70 fn114) (h203 : Has E 139 fn203) (h129 : Has E 71 fn129) (h28 : E.nat.get 47 = some tNameS) : MSpec P 27 tChk := by
 refine ms_chk hE fun num kd text names hk => ⟨names.length + 20, ?_⟩
 refine (g56 h h46 h22 h21 h114 h203 h129 h28 (e := ⟨num, kd, names, 0, text⟩) (nv := nvOf names) (vv := .nils) (by split <;> omega) nv_of.1 nv_of.2 (.inl ⟨rfl, rfl⟩) (few_of hk) rfl rfl rfl rfl rfl (by show names.length + 10 < names.length + 17; omega)).mono fun v m' n' hq => ⟨?_, keep_of hq.2.1⟩
 rw [hq.1, chkG_N hk]
end
end Go.Fm
set_option maxHeartbeats 8000000
namespace Go.Fm
theorem Ok.put0 {Q : V → Mem → Nat → Prop} {b : B} {k : Mem → A} (hk : Ok Q (k (m1 b))) : Ok Q (Go.Fm.putM y6 0 (some b) k) := hk
theorem Ok.inv {Q : V → Mem → Nat → Prop} {call : CE} {tbl : List (TypeId × FuncId)} {x : X} {xs : List X} {t : Tr 3 V} {m : Mem} {n : Nat} {ty : TypeId} {v : V} {f : FuncId} {vs : List V} {kk : V × Mem × Nat → A} (hx : val t x = .ifc ty v) (hf : tbl.lookup ty = some f) (hv : xs.map (val t) = vs)
  (h : Ok Q (Option.rec (motive := fun _ => A) none kk (call (.f f) (v :: vs) m n))) : Ok Q (Option.rec (motive := fun _ => A) none kk (evOp call (.inv tbl x xs) ⟨t, m, n⟩)) := by
 have e : evOp call (.inv tbl x xs) ⟨t, m, n⟩ = call (.f f) (v :: vs) m n := by simp only [evOp, hx, hf, hv]
 rw [e]; exact h
def rplB : B := .cells [vs' [92], vs' [92, 92], vs' [10], vs' [92, 110]] 9
def RplRuns (E : Env') (F F1 : Nat) : Prop := ∃ (r0 : Nat) (cs : List V) (T : TypeId) (r i j k : Nat) (kc : Option Nat) (v2 : V) (M1 : Mem) (n1 : Nat) (M2 : Mem) (n2 : Nat),
 callK E F (.f 217) [.sl 0 0 4 (some 4) 1] (m1 rplB) 1 = some (.ptr r0 0, M1, n1) ∧ callK E F1 (.f 320) [.ptr r0 0, .fn (.func 321) [.ptr r0 0] []] M1 n1 = some (v2, M2, n2) ∧
 M2.get r0 = some (.cells cs T) ∧ cutK (Nat.add 0 3) 1 cs = some [.ifc 632 (.ptr r 0)] ∧ r0 ≤ 262143 ∧ Rpl r i j k kc M2 ∧ n2 ≤ 262143 ∧ n2 ≠ r ∧ n2 ≠ i ∧ n2 ≠ j ∧ n2 ≠ k
section
variable {E : Env'} {Q : V → Mem → Nat → Prop}
attribute [local irreducible] Ok callK loopK lenL nthL takeL dropL eqBs getM putM appVC evM cutK
theorem g197 (h : Has E 140 fn197) (h292 : Has E 218 fn292) (h737 : Has E 743 fn737) (h165 : E.nat.get 175 = some tCount1) {K F F1 F2 F3 F4 F5 : Nat} (e0 : K = F + 1) (e1 : F = F1 + 1) (e2 : F1 = F2 + 1) (e3 : F2 = F3 + 1) (e4 : F3 = F4 + 1) (e5 : F4 = F5 + 1) (hr : RplRuns E F F1) {l : Bs} (hl : l.length ≤ 100000) (hF : l.length < F2) :
  Ok (fun v _ _ => v = vs' (escS l)) (callK E K (.f 140) [vs' l] y6 0) := by
 obtain ⟨r0, cs, T, r, i, j, k, kc, v2, M1, n1, M2, n2, c1, c2, gr0, hcut, hr0, hR, hn2, hnr⟩ := hr
 refine h.run e0 (show 1 ≤ 7 by omega) ?_
 conv => arg 2; whnf
 refine Ok.put0 ?_
 conv => arg 2; whnf
 repeat ((first | refine Ok.opt c1 ?_ | refine Ok.callE h292 e1 (show 2 ≤ 17 by omega) ?_ | refine Ok.opt c2 ?_); conv => arg 2; whnf)
 refine Ok.ld1 gr0 (by omega) hcut ?_
 conv => arg 2; whnf
 refine Ok.inv (ty := 632) (v := .ptr r 0) (f := 743) (vs := [vs' l]) rfl rfl rfl ?_
 refine Ok.sub (g737 h737 h165 hR hn2 hnr hl e2 e3 e4 e5 hF) fun v m n hq => ?_
 subst hq
 conv => arg 2; whnf
 refine Ok.ret ?_
 conv => arg 2; whnf
 exact Ok.eq rfl
end
def tEscP : List V → Option V
 | [.str s] => if s.data.toList.length ≤ 1000 then some (vs' (escS s.data.toList)) else none
 | _ => none
theorem tEscP_at {l : Bs} (hl : l.length ≤ 1000) : tEscP [vs' l] = some (vs' (escS l)) := by
 show (if l.length ≤ 1000 then some (vs' (escS l)) else none) = _
 rw [if_pos hl]
theorem ns_tEscP [Ctx] {P : Program} {E : Env'} (hE : EnvOk P E) (h : Has E 140 fn197) (h292 : Has E 218 fn292) (h737 : Has E 743 fn737) (h165 : E.nat.get 175 = some tCount1) (hr : RplRuns E 3000 2999) : NSpec P 140 tEscP :=
 nspec_of_gives hE fun vs v hF => by
  unfold tEscP at hF
  split at hF
  ·rename_i s
   split at hF
   ·rename_i hl
    injection hF with hF; subst hF
    have hg := g197 h h292 h737 h165 (K := 3001) rfl rfl rfl rfl rfl rfl hr (l := s.data.toList) (by omega) (by omega)
    exact ⟨rfl, rfl, 3001, by rw [nil_y]; exact hg⟩
   ·cases hF
  ·cases hF
theorem ns_tCount1 [Ctx] {P : Program} {E : Env'} (hE : EnvOk P E) (h : Has E 175 fn165) (h242 : E.nat.get 255 = some tCount) : NSpec P 175 tCount1 := ns_s1T hE fun l c hl => ⟨rfl, g165 h h242 c l⟩
end Go.Fm
end
