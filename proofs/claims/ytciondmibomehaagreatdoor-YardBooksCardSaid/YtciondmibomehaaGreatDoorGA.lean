import Derived.Test.YtciondmibomehaaGreatDoorFF
import Derived.Lib.ItoaNum
set_option maxRecDepth 100000
set_option linter.unusedSectionVars false
set_option linter.unusedVariables false
set_option linter.unusedSimpArgs false
set_option linter.constructorNameAsVariable false
noncomputable section
namespace Go.Fm
abbrev Bs := List UInt8
abbrev bs (l : Bs) : ByteArray := ⟨⟨l⟩⟩
abbrev vs' (l : Bs) : V := .str (bs l)
def cutS (c : UInt8) : Bs → Bs × Bs × Bool
 | [] => ([], [], false)
 | a :: r => if a = c then ([], r, true) else (a :: (cutS c r).1, (cutS c r).2.1, (cutS c r).2.2)
theorem cutS_found {c : UInt8} : ∀ {l : Bs}, (cutS c l).2.2 = true → l = (cutS c l).1 ++ c :: (cutS c l).2.1 ∧ c ∉ (cutS c l).1
 | [], h => by simp [cutS] at h
 | a :: r, h => by
  unfold cutS at h ⊢
  by_cases e : a = c
  ·simp [e]
  ·rw [if_neg e] at h ⊢
   obtain ⟨h1, h2⟩ := cutS_found (l := r) h
   refine ⟨?_, ?_⟩
   ·simp only [List.cons_append]; rw [← h1]
   ·simp [h2]; exact fun q => e q.symm
theorem cutS_none {c : UInt8} : ∀ {l : Bs}, (cutS c l).2.2 = false → (cutS c l).1 = l ∧ (cutS c l).2.1 = [] ∧ c ∉ l
 | [], h => by simp [cutS]
 | a :: r, h => by
  unfold cutS at h ⊢
  by_cases e : a = c
  ·rw [if_pos e] at h; simp at h
  ·rw [if_neg e] at h ⊢
   obtain ⟨h1, h2, h3⟩ := cutS_none (l := r) h
   refine ⟨by simp [h1], h2, ?_⟩
   simp [h3]; exact fun q => e q.symm
theorem cutS_app {c : UInt8} : ∀ {a : Bs} (r : Bs), c ∉ a → cutS c (a ++ c :: r) = (a, r, true)
 | [], r, _ => by simp [cutS]
 | x :: a, r, h => by
  simp only [List.mem_cons, not_or] at h
  have ih := cutS_app r h.2
  simp only [List.cons_append, cutS, ih]
  rw [if_neg (fun q => h.1 q.symm)]
theorem cutS_not {c : UInt8} : ∀ {a : Bs}, c ∉ a → cutS c a = (a, [], false)
 | [], _ => rfl
 | x :: a, h => by
  simp only [List.mem_cons, not_or] at h
  simp only [cutS, cutS_not h.2]
  rw [if_neg (fun q => h.1 q.symm)]
theorem cutS_len {c : UInt8} {l : Bs} : (cutS c l).1.length + (cutS c l).2.1.length ≤ l.length := by
 cases h : (cutS c l).2.2 with
 | true => have := (cutS_found h).1; have e := congrArg List.length this; simp at e; omega
 | false => obtain ⟨h1, h2, _⟩ := cutS_none h; rw [h1, h2]; simp
def digB (c : UInt8) : Bool := decide (48 ≤ c.toNat) && decide (c.toNat ≤ 57)
def letB (c : UInt8) : Bool := (decide (97 ≤ c.toNat) && decide (c.toNat ≤ 122)) || (decide (65 ≤ c.toNat) && decide (c.toNat ≤ 90))
def isIntS (l : Bs) : Bool := !l.isEmpty && decide (l.length ≤ 9) && l.all digB && (l.head? != some 48 || l.length == 1)
def intS (l : Bs) : Nat := l.foldl (fun n c => 10 * n + (c.toNat - 48)) 0
def sumS (l : Bs) : Nat := l.foldl (fun n c => (251 * n + c.toNat) % 1000003) 7
def plainS : Bs → Option Bs
 | [] => some []
 | [c] => if c = 10 ∨ c = 92 then none else some [c]
 | c :: d :: r => if c = 10 then none else if c = 92 then (if d = 110 then (plainS r).map (10 :: ·) else if d = 92 then (plainS r).map (92 :: ·) else none) else (plainS (d :: r)).map (c :: ·)
abbrev kDraw : Bs := [100, 114, 97, 119]
abbrev kBranch : Bs := [98, 114, 97, 110, 99, 104]
abbrev kMerge : Bs := [109, 101, 114, 103, 101]
abbrev kNote : Bs := [110, 111, 116, 101]
abbrev kUndo : Bs := [117, 110, 100, 111]
def formS (k : Bs) : Option (Nat × Bool) := if k = kDraw then some (1, true) else if k = kBranch then some (2, false) else if k = kMerge then some (2, false) else if k = kNote then some (0, true) else if k = kUndo then some (0, false) else none
structure Ev' where
 kind : Bs
 names : List Bs
 text : Bs
def wordsS : Nat → Bs → Bool → Option (List Bs × Bs × Bool)
 | 0, r, m => some ([], r, m)
 | n + 1, r, m => if m = false then none else if (cutS 32 r).1 = [] then none else (wordsS n (cutS 32 r).2.1 (cutS 32 r).2.2).map fun x => ((cutS 32 r).1 :: x.1, x.2)
def parseS (line : Bs) : Option Ev' := (formS (cutS 32 line).1).bind fun f => (wordsS f.1 (cutS 32 line).2.1 (cutS 32 line).2.2).bind fun w =>
 if w.2.2 = f.2 then (if f.2 = true then (plainS w.2.1).map fun x => ⟨(cutS 32 line).1, w.1, x⟩ else some ⟨(cutS 32 line).1, w.1, []⟩) else none
def isNameS (l : Bs) : Bool := match l with
 | [] => false
 | c :: r => decide (l.length ≤ 24) && letB c && r.all fun d => letB d || digB d || d == 95
def checkS (n : Nat) (e : Ev') : Bool := decide (1 ≤ n) && decide (n ≤ 1000) && e.names.all isNameS && decide (e.text.length ≤ 4096)
structure Ev1 where
 num : Nat
 ev : Ev'
def decodeS (itoa : Nat → Bs) (s : Bs) : Ev1 ⊕ Nat :=
 if 8392 < s.length then .inr 29 else
 if (cutS 32 s).2.2 = false ∨ isIntS (cutS 32 s).1 = false then .inr 28 else
 if (cutS 32 s).1 ≠ itoa (sumS (cutS 32 s).2.1) then .inr 30 else
 if (cutS 32 (cutS 32 s).2.1).2.2 = false ∨ isIntS (cutS 32 (cutS 32 s).2.1).1 = false then .inr 28 else
 match parseS (cutS 32 (cutS 32 s).2.1).2.1 with
 | none => .inr 28
 | some e => if checkS (intS (cutS 32 (cutS 32 s).2.1).1) e then .inl ⟨intS (cutS 32 (cutS 32 s).2.1).1, e⟩ else .inr 28
def recoverS (itoa : Nat → Bs) : Nat → List Ev1 → Nat → Bs → List Ev1 × Nat × Nat
 | 0, out, at', _ => (out, at', 0)
 | k + 1, out, at', rest => if rest = [] then (out, at', 0) else if (cutS 10 rest).2.2 = false then (out, at', 31) else
  match decodeS itoa (cutS 10 rest).1 with
  | .inr b => (out, at', b)
  | .inl e => if 1000 ≤ out.length then (out, at', 5) else recoverS itoa k (out ++ [e]) (at' + (cutS 10 rest).1.length + 1) (cutS 10 rest).2.1
end Go.Fm
namespace Go.Fm
abbrev bd5 : RC := .seq (qo [qv 17 6,q 18 (.strop .neq 17 (qX []))] (.cond 18 .skip (.exit 0))) (.block 1 (qo [qv 19 0,qs 20 19,qv 21 6,qs 22 21,qb 23 .sub 20 22,qv 7 23] (qo [qv 25 6,qc 26 31 [25,qX [10]],qv 24 26,qe 27 24 0,qe 28 24 1,qe 29 24 2,qv 8 27,qv 9 28,qv 10 29] (.seq (qo [qv 30 10,qt 31 30] (.cond 31 (qo [qv 32 5,qv 33 7,qv 2 32,qv 3 33,qv 4 (qI 31)] .ret) .skip)) (qo [qv 35 8,qc 36 8 [35],qv 34 36,qe 37 34 0,qe 38 34 1,qm 11 (.alloc [vi 0,qz,.nils,.nils,qz] 25),qw (.store 5 11 37),qv 12 38] (.seq (qo [qv 39 12,qv 40 5,qS 41 40,qb 42 .geq 41 (qI 1000),qc 43 30 [42,qI 5],qm 44 (.buildSl [vi 0] 2 1 [(0,1,39),(1,1,43)] 29),qc 45 29 [44],qv 12 45] (qo [qv 46 12,qb 47 .neq 46 (qI 0)] (.cond 47 (qo [qv 48 5,qv 49 7,qv 50 12,qv 2 48,qv 3 49,qv 4 50] .ret) .skip))) (qo [qv 51 5,qm 52 (.load 5 true 11),qm 53 (.buildSl [vi 0,qz,.nils,.nils,qz] 1 5 [(0,5,52)] 25),qm 54 (.append [vi 0,qz,.nils,.nils,qz] 5 88 51 53 25),qv 5 54] (.ops [qv 55 9,qv 6 55]))))))))
def fn5 : RFn := ⟨59,qo [qv 2 (.c .nils),qv 3 (qI 0),qv 4 (qI 0)] (.seq (qo [qv 13 0,qs 14 13,qb 15 .gtr 14 (qI 1000000)] (.cond 15 (qo [qv 2 (.c .nils),qv 3 (qI 0),qv 4 (qI 29)] .ret) .skip)) (qo [qv 5 (.c .nils)] (qo [qv 16 0,qv 6 16] (.seq (.block 0 (.loop bd5)) (qo [qv 56 5,qv 57 0,qs 58 57,qv 2 56,qv 3 58,qv 4 (qI 0)] .ret))))),[(.t 2),(.t 3),(.t 4)]⟩
abbrev bd6 : RC := .seq (qo [qv 13 7,qv 14 0,qs 15 14,qb 16 .lss 13 15] (.cond 16 .skip (.exit 0))) (.seq (.block 1 (.seq (qo [qv 19 0,qv 20 7,q 21 (.idxStr 19 20),q 22 (.bin .neq .u8 21 (.c (.int .u8 10)))] (.cond 22 (.exit 1) .skip)) (qo [qv 24 0,qv 25 6,qv 26 7,q 27 (.slStr 24 (some 25) (some 26)),qc 28 13 [27],qv 23 28,qe 29 23 0,qe 30 23 1,qm 8 (.alloc [vi 0,qz,.nils,.nils,qz] 25),qw (.store 5 8 29),qv 9 30] (.seq (qo [qv 31 9,qb 32 .eql 31 (qI 0),qv 33 32,qg 34 33 true (.mv 5),qg 35 33 true (.lenS 34),qg 36 33 true (.bin .eql .i64 35 (qI 1000)),qk 37 33 36 qF] (.cond 37 (.ops [qv 9 (qI 5)]) .skip)) (.seq (qo [qv 38 9,qb 39 .neq 38 (qI 0)] (.cond 39 (qo [qv 40 5,qv 41 6,qv 42 9,qv 2 40,qv 3 41,qv 4 42] .ret) .skip)) (qo [qv 43 5,qm 44 (.load 5 true 8),qm 45 (.buildSl [vi 0,qz,.nils,.nils,qz] 1 5 [(0,5,44)] 25),qm 46 (.append [vi 0,qz,.nils,.nils,qz] 5 88 43 45 25),qv 5 46] (.ops [qv 47 7,qb 48 .add 47 (qI 1),qv 6 48]))))))) (.ops [qv 17 7,qb 18 .add 17 (qI 1),qv 7 18]))
def fn6 : RFn := ⟨57,qo [qv 2 (.c .nils),qv 3 (qI 0),qv 4 (qI 0)] (.seq (qo [qv 10 0,qs 11 10,qb 12 .gtr 11 (qI 1000000)] (.cond 12 (qo [qv 2 (.c .nils),qv 3 (qI 0),qv 4 (qI 29)] .ret) .skip)) (qo [qv 5 (.c .nils)] (qo [qv 6 (qI 0)] (.seq (qo [qv 7 (qI 0)] (.block 0 (.loop bd6))) (.seq (qo [qv 49 6,qv 50 0,qs 51 50,qb 52 .lss 49 51] (.cond 52 (qo [qv 53 5,qv 54 6,qv 2 53,qv 3 54,qv 4 (qI 31)] .ret) .skip)) (qo [qv 55 5,qv 56 6,qv 2 55,qv 3 56,qv 4 (qI 0)] .ret)))))),[(.t 2),(.t 3),(.t 4)]⟩
abbrev bd7 : RC := .seq (qo [qv 11 5,qv 12 0,qS 13 12,qb 14 .lss 11 13] (.cond 14 .skip (.exit 0))) (.seq (.block 1 (.seq (.drawn [⟨[⟨0,qv 17 0⟩,⟨1,qv 18 5⟩,⟨2,q 19 (.idxS 5 17 18)⟩,⟨3,qf 20 0 19⟩,⟨4,ql 21 20⟩,⟨5,qv 22 1⟩,⟨6,qv 23 5⟩,⟨7,q 24 (.idxS 5 22 23)⟩,⟨8,qf 25 0 24⟩,⟨9,ql 26 25⟩,⟨10,qb 27 .neq 21 26⟩,⟨11,qv 28 27⟩,⟨12,qg 29 28 false (.mv 0)⟩,⟨13,qg 30 28 false (.mv 5)⟩,⟨14,qg 31 28 false (.idxS 5 29 30)⟩,⟨15,qg 32 28 false (.fieldA 1 31)⟩,⟨16,qmg 33 28 false (.load 1 false 32)⟩,⟨17,qg 34 28 false (.mv 1)⟩,⟨18,qg 35 28 false (.mv 5)⟩,⟨19,qg 36 28 false (.idxS 5 34 35)⟩,⟨20,qg 37 28 false (.fieldA 1 36)⟩,⟨21,qmg 38 28 false (.load 1 false 37)⟩,⟨22,qg 39 28 false (.strop .neq 33 38)⟩,⟨23,qk 40 28 qT 39⟩,⟨24,qv 41 40⟩,⟨25,qg 42 41 false (.mv 0)⟩,⟨26,qg 43 41 false (.mv 5)⟩,⟨27,qg 44 41 false (.idxS 5 42 43)⟩,⟨28,qg 45 41 false (.fieldA 2 44)⟩,⟨29,qmg 46 41 false (.load 1 false 45)⟩,⟨30,qg 47 41 false (.mv 1)⟩,⟨31,qg 48 41 false (.mv 5)⟩,⟨32,qg 49 41 false (.idxS 5 47 48)⟩,⟨33,qg 50 41 false (.fieldA 2 49)⟩,⟨34,qmg 51 41 false (.load 1 false 50)⟩],[],some ⟨35,qcg 52 41 false 43 [46,51]⟩,[]⟩,⟨[⟨36,qg 53 41 false (.not 52)⟩,⟨37,qk 54 41 qT 53⟩,⟨38,qv 55 54⟩,⟨39,qg 56 55 false (.mv 0)⟩,⟨40,qg 57 55 false (.mv 5)⟩,⟨41,qg 58 55 false (.idxS 5 56 57)⟩,⟨42,qg 59 55 false (.fieldA 3 58)⟩,⟨43,qmg 60 55 false (.load 1 false 59)⟩,⟨44,qg 61 55 false (.lenS 60)⟩,⟨45,qg 62 55 false (.mv 1)⟩,⟨46,qg 63 55 false (.mv 5)⟩,⟨47,qg 64 55 false (.idxS 5 62 63)⟩,⟨48,qg 65 55 false (.fieldA 3 64)⟩,⟨49,qmg 66 55 false (.load 1 false 65)⟩,⟨50,qg 67 55 false (.lenS 66)⟩,⟨51,qg 68 55 false (.bin .add .i64 61 67)⟩,⟨52,qg 69 55 false (.bin .gtr .i64 68 (qI 0))⟩,⟨53,qk 70 55 qT 69⟩,⟨54,qv 71 70⟩,⟨55,qg 72 71 false (.mv 0)⟩,⟨56,qg 73 71 false (.mv 5)⟩,⟨57,qg 74 71 false (.idxS 5 72 73)⟩,⟨58,qg 75 71 false (.fieldA 4 74)⟩,⟨59,qmg 76 71 false (.load 1 false 75)⟩,⟨60,qg 77 71 false (.mv 1)⟩,⟨61,qg 78 71 false (.mv 5)⟩,⟨62,qg 79 71 false (.idxS 5 77 78)⟩,⟨63,qg 80 71 false (.fieldA 4 79)⟩,⟨64,qmg 81 71 false (.load 1 false 80)⟩,⟨65,qg 82 71 false (.strop .neq 76 81)⟩,⟨66,qk 83 71 qT 82⟩],[],none,[]⟩]) (.cond 83 (qo [qv 4 qF] .ret) .skip))) (.ops [qv 15 5,qb 16 .add 15 (qI 1),qv 5 16]))
def fn7 : RFn := ⟨84,qo [qv 4 qF] (.seq (qo [qv 6 0,qS 7 6,qv 8 1,qS 9 8,qb 10 .neq 7 9] (.cond 10 (qo [qv 4 qF] .ret) .skip)) (.seq (qo [qv 5 (qI 0)] (.block 0 (.loop bd7))) (qo [qv 4 qT] .ret))),[(.t 4)]⟩
def fn19 : RFn := ⟨13,qo [qv 4 (qX []),qv 5 (qX []),qv 6 qF] (qo [qv 7 0,qv 8 1,qc 9 73 [7,8],qe 10 9 0,qe 11 9 1,qe 12 9 2,qv 4 10,qv 5 11,qv 6 12] .ret),[(.t 4),(.t 5),(.t 6)]⟩
def fn20 : RFn := ⟨77,qo [qm 2 (.alloc [vi 0,qz,.nils,.nils,qz] 25),qv 3 (qI 0)] (.seq (qo [qv 15 0,qs 16 15,qb 17 .gtr 16 (qI 8392)] (.cond 17 (qo [q 18 (.build [vi 0,qz,.nils,.nils,qz] []),qw (.store 5 2 18),qv 3 (qI 29)] .ret) .skip)) (qo [qv 20 0,qc 21 31 [20,qX [32]],qv 19 21,qe 22 19 0,qe 23 19 1,qe 24 19 2,qv 4 22,qv 5 23,qv 6 24] (.seq (qo [qv 26 4,qc 27 32 [26],qv 25 27,qe 28 25 0,qe 29 25 1,qv 7 28,qv 8 29] (qo [qv 30 6,qt 31 30,qv 32 31,qg 33 32 false (.mv 8),qg 34 32 false (.not 33),qk 35 32 qT 34] (.cond 35 (qo [q 36 (.build [vi 0,qz,.nils,.nils,qz] []),qw (.store 5 2 36),qv 3 (qI 28)] .ret) .skip))) (.seq (qo [qv 37 4,qv 38 5,qc 39 33 [38],q 40 (.strop .neq 37 39)] (.cond 40 (qo [q 41 (.build [vi 0,qz,.nils,.nils,qz] []),qw (.store 5 2 41),qv 3 (qI 30)] .ret) .skip)) (qo [qv 43 5,qc 44 31 [43,qX [32]],qv 42 44,qe 45 42 0,qe 46 42 1,qe 47 42 2,qv 9 45,qv 10 46,qv 6 47] (qo [qv 49 9,qc 50 32 [49],qv 48 50,qe 51 48 0,qe 52 48 1,qv 11 51,qv 12 52] (qo [qv 54 10,qc 55 34 [54],qv 53 55,qe 56 53 0,qe 57 53 1,qm 13 (.alloc [vi 0,qz,.nils,.nils,qz] 25),qw (.store 5 13 56),qv 14 57] (qo [qv 58 11,qf 59 0 13,qw (.store 1 59 58)] (.seq (qo [qv 60 6,qt 61 60,qv 62 61,qg 63 62 false (.mv 12),qg 64 62 false (.not 63),qk 65 62 qT 64,qv 66 65,qg 67 66 false (.mv 14),qg 68 66 false (.not 67),qk 69 66 qT 68,qv 70 69,qmg 71 70 false (.load 5 true 13),qcg 72 70 false 27 [71],qg 73 70 false (.bin .neq .i64 72 (qI 0)),qk 74 70 qT 73] (.cond 74 (qo [q 75 (.build [vi 0,qz,.nils,.nils,qz] []),qw (.store 5 2 75),qv 3 (qI 28)] .ret) .skip)) (qo [qm 76 (.load 5 true 13),qw (.store 5 2 76),qv 3 (qI 0)] .ret)))))))))),[(.c 2 5 true),(.t 3)]⟩
abbrev bd21 : RC := qo [qb 8 .lss 7 6] (.seq (.cond 8 .skip (.exit 0)) (.seq (.block 1 (qo [q 9 (.idxS 1 5 7),ql 10 9,qv 4 10] (qo [qv 11 4,qb 12 .neq 11 (qI 0)] (.cond 12 (qo [qv 13 4,qv 2 13] .ret) .skip)))) (.ops [qb 14 .add 7 (qI 1),qv 7 14])))
def fn21 : RFn := ⟨15,qo [qv 2 (qI 0)] (.seq (qo [qv 5 0,qS 6 5,qv 7 (qI 0)] (.block 0 (.loop bd21))) (qo [qv 2 (qI 0)] .ret)),[(.t 2)]⟩
def fn22 : RFn := ⟨7,qo [qv 4 (qI 0)] (.seq (qo [qv 5 0] (.cond 5 (qo [qv 6 1,qv 4 6] .ret) .skip)) (qo [qv 4 (qI 0)] .ret)),[(.t 4)]⟩
def fn23 : RFn := ⟨65,qo [qm 2 (.alloc [vi 0,qz,.nils,.nils,qz] 25),qv 3 (qI 0)] (.seq (qo [qv 11 0,qs 12 11,qb 13 .gtr 12 (qI 8392)] (.cond 13 (qo [q 14 (.build [vi 0,qz,.nils,.nils,qz] []),qw (.store 5 2 14),qv 3 (qI 29)] .ret) .skip)) (qo [qv 16 0,qc 17 39 [16],qv 15 17,qe 18 15 0,qe 19 15 1,qe 20 15 2,qv 4 18,qv 5 19,qv 6 20] (.seq (qo [qv 21 6,qt 22 21,qv 23 22,qg 24 23 false (.mv 4),qcg 25 23 false 40 [24],qg 26 23 false (.not 25),qk 27 23 qT 26] (.cond 27 (qo [q 28 (.build [vi 0,qz,.nils,.nils,qz] []),qw (.store 5 2 28),qv 3 (qI 28)] .ret) .skip)) (.seq (qo [qv 29 5,qc 30 38 [29],qv 31 4,q 32 (.strop .neq 30 31)] (.cond 32 (qo [q 33 (.build [vi 0,qz,.nils,.nils,qz] []),qw (.store 5 2 33),qv 3 (qI 30)] .ret) .skip)) (qo [qv 35 5,qc 36 39 [35],qv 34 36,qe 37 34 0,qe 38 34 1,qe 39 34 2,qv 7 37,qv 8 38,qv 6 39] (qo [qv 41 8,qc 42 41 [41],qv 40 42,qe 43 40 0,qe 44 40 1,qm 9 (.alloc [vi 0,qz,.nils,.nils,qz] 25),qw (.store 5 9 43),qv 10 44] (.seq (qo [qv 45 6,qt 46 45,qv 47 46,qg 48 47 false (.mv 7),qcg 49 47 false 40 [48],qg 50 47 false (.not 49),qk 51 47 qT 50,qv 52 51,qg 53 52 false (.mv 10),qg 54 52 false (.not 53),qk 55 52 qT 54] (.cond 55 (qo [q 56 (.build [vi 0,qz,.nils,.nils,qz] []),qw (.store 5 2 56),qv 3 (qI 28)] .ret) .skip)) (qo [qv 57 7,qc 58 42 [57],qf 59 0 9,qw (.store 1 59 58)] (.seq (qo [qm 60 (.load 5 true 9),qc 61 9 [60],qb 62 .neq 61 (qI 0)] (.cond 62 (qo [q 63 (.build [vi 0,qz,.nils,.nils,qz] []),qw (.store 5 2 63),qv 3 (qI 28)] .ret) .skip)) (qo [qm 64 (.load 5 true 9),qw (.store 5 2 64),qv 3 (qI 0)] .ret)))))))))),[(.c 2 5 true),(.t 3)]⟩
abbrev bd24 : RC := .seq (qo [qv 11 5,qv 12 0,qS 13 12,qb 14 .lss 11 13] (.cond 14 .skip (.exit 0))) (.seq (.block 1 (.seq (.drawn [⟨[⟨0,qv 17 0⟩,⟨1,qv 18 5⟩,⟨2,q 19 (.idxS 1 17 18)⟩,⟨3,ql 20 19⟩,⟨4,qv 21 1⟩,⟨5,qv 22 5⟩,⟨6,q 23 (.idxS 1 21 22)⟩,⟨7,ql 24 23⟩,⟨8,q 25 (.strop .neq 20 24)⟩],[],none,[]⟩]) (.cond 25 (qo [qv 4 qF] .ret) .skip))) (.ops [qv 15 5,qb 16 .add 15 (qI 1),qv 5 16]))
def fn24 : RFn := ⟨26,qo [qv 4 qF] (.seq (qo [qv 6 0,qS 7 6,qv 8 1,qS 9 8,qb 10 .neq 7 9] (.cond 10 (qo [qv 4 qF] .ret) .skip)) (.seq (qo [qv 5 (qI 0)] (.block 0 (.loop bd24))) (qo [qv 4 qT] .ret))),[(.t 4)]⟩
def fn39 : RFn := ⟨14,qo [qv 2 (qX [])] (.seq (.drawn [⟨[⟨0,qv 3 0⟩,⟨1,qn 4 3⟩,⟨2,qf 5 1 4⟩,⟨3,ql 6 5⟩,⟨4,q 7 (.slData 6)⟩,⟨5,qv 8 0⟩,⟨6,qn 9 8⟩,⟨7,qf 10 1 9⟩,⟨8,ql 11 10⟩,⟨9,qS 12 11⟩],[],some ⟨10,qm 13 (.uStr 5 7 12)⟩,[]⟩,⟨[⟨11,qv 2 13⟩],[],none,[]⟩]) .ret),[(.t 2)]⟩
def fn44 : RFn := ⟨6,qo [qv 2 (qX [])] (qo [qv 3 0,qc 4 120 [3],qc 5 119 [4],qv 2 5] .ret),[(.t 2)]⟩
def fn45 : RFn := ⟨9,qo [qv 4 qF] (qo [qv 5 0,qv 6 1,qc 7 121 [5,6],qb 8 .geq 7 (qI 0),qv 4 8] .ret),[(.t 4)]⟩
def fn46 : RFn := ⟨20,qo [qm 2 (.alloc [vi 0,.bool false] 155),qv 3 qF] (qo [qm 7 .mkMap,q 8 (.build [vi 0,.bool false] [(0,1,qI 1),(1,1,qT)]),qw (.mapSet 7 (qX [100,114,97,119]) 8),q 9 (.build [vi 0,.bool false] [(0,1,qI 2),(1,1,qF)]),qw (.mapSet 7 (qX [98,114,97,110,99,104]) 9),q 10 (.build [vi 0,.bool false] [(0,1,qI 2),(1,1,qF)]),qw (.mapSet 7 (qX [109,101,114,103,101]) 10),q 11 (.build [vi 0,.bool false] [(0,1,qI 0),(1,1,qT)]),qw (.mapSet 7 (qX [110,111,116,101]) 11),q 12 (.build [vi 0,.bool false] []),qw (.mapSet 7 (qX [117,110,100,111]) 12),qv 13 7,qv 14 0,qm 15 (.lookup (.agg [vi 0,.bool false]) true 13 14),qv 6 15,qe 16 6 0,qe 17 6 1,qm 4 (.alloc [vi 0,.bool false] 155),qw (.store 2 4 16),qv 5 17] (qo [qm 18 (.load 2 true 4),qv 19 5,qw (.store 2 2 18),qv 3 19] .ret)),[(.c 2 2 true),(.t 3)]⟩
def fn50 : RFn := ⟨19,qo [qv 4 (qI 0),qv 5 (.c .nili)] (qo [qv 6 0,qc 7 138 [6]] (qo [qv 8 0,qv 9 0,qn 10 9,qf 11 1 10,ql 12 11,qv 13 1,qm 14 (.append [.int .u8 0] 1 1 12 13 5),qn 15 8,qf 16 1 15,qw (.store 1 16 14)] (qo [qv 17 1,qs 18 17,qv 4 18,qv 5 (.c .nili)] .ret))),[(.t 4),(.t 5)]⟩
def fn52 : RFn := ⟨23,qo [qv 4 (qX []),qv 5 (qX []),qv 6 qF] (.seq (qo [qv 8 0,qv 9 1,qc 10 141 [8,9],qv 7 10] (qo [qv 11 7,qb 12 .geq 11 (qI 0)] (.cond 12 (.seq (.drawn [⟨[⟨0,qv 13 0⟩,⟨1,qv 14 7⟩,⟨2,q 15 (.slStr 13 none (some 14))⟩,⟨3,qv 16 0⟩,⟨4,qv 17 7⟩,⟨5,qv 18 1⟩,⟨6,qs 19 18⟩,⟨7,qb 20 .add 17 19⟩,⟨8,q 21 (.slStr 16 (some 20) none)⟩,⟨9,qv 4 15⟩,⟨10,qv 5 21⟩,⟨11,qv 6 qT⟩],[],none,[]⟩]) .ret) .skip))) (qo [qv 22 0,qv 4 22,qv 5 (qX []),qv 6 qF] .ret)),[(.t 4),(.t 5),(.t 6)]⟩
def fn53 : RFn := ⟨35,qo [qv 2 (qI 0),qv 3 qF] (.seq (qo [qv 6 0,q 7 (.strop .eql 6 (qX [])),qv 8 7,qg 9 8 false (.mv 0),qg 10 8 false (.lenStr 9),qg 11 8 false (.bin .gtr .i64 10 (qI 9)),qk 12 8 qT 11,qv 13 12,qg 14 13 false (.mv 0),qcg 15 13 false 74 [14,.c (.fn (.func 75) [] [])],qg 16 13 false (.mv 0),qg 17 13 false (.lenStr 16),qg 18 13 false (.bin .lss .i64 15 17),qk 19 13 qT 18,qv 20 19,qg 21 20 false (.mv 0),qg 22 20 false (.idxStr 21 (qI 0)),qg 23 20 false (.bin .eql .u8 22 (.c (.int .u8 48))),qg 24 20 false (.mv 23),qg 25 24 true (.mv 0),qg 26 24 true (.strop .neq 25 (qX [48])),qg 27 20 false (.pick 24 26 qF),qk 28 20 qT 27] (.cond 28 (qo [qv 2 (qI 0),qv 3 qF] .ret) .skip)) (qo [qv 30 0,qc 31 76 [30],qv 29 31,qe 32 29 0,qe 33 29 1,qv 4 32,qv 5 33] (qo [qv 34 4,qv 2 34,qv 3 qT] .ret))),[(.t 2),(.t 3)]⟩
abbrev bd54 : RC := qo [qb 10 .lss 9 8] (.seq (.cond 10 .skip (.exit 0)) (.seq (.block 1 (qo [q 11 (.idxS 1 7 9),ql 12 11,qv 5 12] (.ops [qv 13 3,qb 14 .mul (qI 251) 13,qv 15 5,q 16 (.convI .u8 .i64 15),qb 17 .add 14 16,qb 18 .rem 17 (qI 1000003),qv 3 18]))) (.ops [qb 19 .add 9 (qI 1),qv 9 19])))
def fn54 : RFn := ⟨22,qo [qv 2 (qX [])] (qo [qv 3 (qI 7)] (.seq (qo [qv 6 0,qm 7 (.toB 6),qS 8 7,qv 9 (qI 0)] (.block 0 (.loop bd54))) (qo [qv 20 3,qc 21 77 [20],qv 2 21] .ret))),[(.t 2)]⟩
abbrev bd55 : RC := qo [qb 28 .lss 27 26] (.seq (.cond 28 .skip (.exit 0)) (.seq (.block 1 (.drawn [⟨[⟨0,qf 29 2 8⟩,⟨1,ql 30 29⟩,⟨2,qv 31 7⟩],[],some ⟨3,⟨some 32,none,.callv 31 []⟩⟩,[⟨1,ql 30 29⟩]⟩,⟨[⟨4,qm 33 (.buildSl [qz] 1 1 [(0,1,32)] 9)⟩],[4],some ⟨5,qm 34 (.append [qz] 1 16 30 33 9)⟩,[]⟩,⟨[⟨6,qf 35 2 8⟩],[],some ⟨7,qw (.store 1 35 34)⟩,[]⟩,⟨[],[],none,[]⟩])) (.ops [qb 36 .add 27 (qI 1),qv 27 36])))
def fn55 : RFn := ⟨58,qo [qm 2 (.alloc [vi 0,qz,.nils,.nils,qz] 25),qv 3 qF] (qo [qm 4 (.alloc [.bool false] 4),qw (.store 1 4 qT)] (qo [qv 11 0,qm 5 (.alloc [qz] 9),qm 6 (.alloc [.bool false] 4),qw (.store 1 5 11),qw (.store 1 6 qT)] (qo [q 12 (.mkFn (.func 78) [] [4,6,5]),qv 7 12] (qo [qv 13 7,⟨some 14,none,.callv 13 []⟩,q 15 (.build [vi 0,qz,.nils,.nils,qz] [(1,1,14)]),qm 8 (.alloc [vi 0,qz,.nils,.nils,qz] 25),qw (.store 5 8 15)] (qo [qf 17 1 8,ql 18 17,qc 19 65 [18],qv 16 19,qe 20 16 0,qe 21 16 1,qm 9 (.alloc [vi 0,.bool false] 155),qw (.store 2 9 20),qv 10 21] (.seq (qo [qv 22 10,qt 23 22] (.cond 23 (qo [q 24 (.build [vi 0,qz,.nils,.nils,qz] []),qw (.store 5 2 24),qv 3 qF] .ret) .skip)) (.seq (qo [qf 25 0 9,ql 26 25,qv 27 (qI 0)] (.block 0 (.loop bd55))) (.seq (qo [ql 37 6,qf 38 1 9,ql 39 38,q 40 (.boolop .neq 37 39)] (.cond 40 (qo [q 41 (.build [vi 0,qz,.nils,.nils,qz] []),qw (.store 5 2 41),qv 3 qF] .ret) .skip)) (.seq (qo [qf 42 1 9,ql 43 42] (.cond 43 (.ops [ql 45 5,qc 46 79 [45],qv 44 46,qe 47 44 0,qe 48 44 1,qf 49 4 8,qw (.store 1 49 47),qv 10 48]) .skip)) (.seq (qo [ql 50 4,qt 51 50,qv 52 51,qg 53 52 false (.mv 10),qg 54 52 false (.not 53),qk 55 52 qT 54] (.cond 55 (qo [q 56 (.build [vi 0,qz,.nils,.nils,qz] []),qw (.store 5 2 56),qv 3 qF] .ret) .skip)) (qo [qm 57 (.load 5 true 8),qw (.store 5 2 57),qv 3 qT] .ret))))))))))),[(.c 2 5 true),(.t 3)]⟩
def fn56 : RFn := ⟨56,qo [qm 1 (.box 0 25),qv 2 (qI 0)] (qo [qf 6 1 1,ql 7 6,qc 8 65 [7],qv 5 8,qe 9 5 0,qe 10 5 1,qm 3 (.alloc [vi 0,.bool false] 155),qw (.store 2 3 9),qv 4 10] (.seq (.drawn [⟨[⟨0,qf 11 0 1⟩,⟨1,ql 12 11⟩,⟨2,qb 13 .lss 12 (qI 1)⟩,⟨3,qv 14 13⟩,⟨4,qg 15 14 false (.fieldA 0 1)⟩,⟨5,qmg 16 14 false (.load 1 false 15)⟩,⟨6,qg 17 14 false (.bin .gtr .i64 16 (qI 1000))⟩,⟨7,qk 18 14 qT 17⟩,⟨9,qv 20 4⟩,⟨10,qt 21 20⟩,⟨12,qf 23 2 1⟩,⟨13,ql 24 23⟩,⟨14,qS 25 24⟩,⟨15,qf 26 0 3⟩,⟨16,ql 27 26⟩,⟨17,qb 28 .neq 25 27⟩,⟨25,qf 36 2 1⟩,⟨26,ql 37 36⟩,⟨29,qf 40 1 3⟩,⟨30,ql 41 40⟩,⟨31,qt 42 41⟩,⟨38,qf 49 4 1⟩,⟨39,ql 50 49⟩,⟨40,qs 51 50⟩,⟨41,qb 52 .gtr 51 (qI 4096)⟩],[],some ⟨8,qc 19 30 [18,qI 3]⟩,[⟨13,ql 24 23⟩,⟨16,ql 27 26⟩,⟨26,ql 37 36⟩,⟨30,ql 41 40⟩,⟨39,ql 50 49⟩]⟩,⟨[],[],some ⟨11,qc 22 30 [21,qI 14]⟩,[⟨13,ql 24 23⟩,⟨16,ql 27 26⟩,⟨26,ql 37 36⟩,⟨30,ql 41 40⟩,⟨39,ql 50 49⟩]⟩,⟨[⟨18,qv 29 28⟩,⟨19,qg 30 29 false (.fieldA 3 1)⟩,⟨20,qmg 31 29 false (.load 1 false 30)⟩,⟨21,qg 32 29 false (.lenS 31)⟩,⟨22,qg 33 29 false (.bin .gtr .i64 32 (qI 0))⟩,⟨23,qk 34 29 qT 33⟩],[],some ⟨24,qc 35 30 [34,qI 2]⟩,[⟨26,ql 37 36⟩,⟨30,ql 41 40⟩,⟨39,ql 50 49⟩]⟩,⟨[],[],some ⟨27,qc 38 70 [37,.c (.fn (.func 71) [] [])]⟩,[⟨30,ql 41 40⟩,⟨39,ql 50 49⟩]⟩,⟨[],[],some ⟨28,qc 39 30 [38,qI 8]⟩,[⟨30,ql 41 40⟩,⟨39,ql 50 49⟩]⟩,⟨[⟨32,qv 43 42⟩,⟨33,qg 44 43 true (.fieldA 4 1)⟩,⟨34,qmg 45 43 true (.load 1 false 44)⟩,⟨35,qg 46 43 true (.strop .neq 45 (qX []))⟩,⟨36,qk 47 43 46 qF⟩],[],some ⟨37,qc 48 30 [47,qI 1]⟩,[⟨39,ql 50 49⟩]⟩,⟨[],[],some ⟨42,qc 53 30 [52,qI 29]⟩,[]⟩,⟨[⟨43,qm 54 (.buildSl [vi 0] 6 1 [(0,1,19),(1,1,22),(2,1,35),(3,1,39),(4,1,48),(5,1,53)] 29)⟩],[43],some ⟨44,qc 55 29 [54]⟩,[]⟩,⟨[⟨45,qv 2 55⟩],[],none,[]⟩]) .ret)),[(.t 2)]⟩
abbrev bd57 : RC := .seq (qo [qv 6 5,qv 7 0,qs 8 7,qb 9 .lss 6 8] (.cond 9 .skip (.exit 0))) (.seq (.block 1 (qo [qv 12 0,qv 13 5,q 14 (.idxStr 12 13),q 15 (.bin .eql .u8 14 (.c (.int .u8 32)))] (.cond 15 (.seq (.drawn [⟨[⟨0,qv 16 0⟩,⟨1,qv 17 5⟩,⟨2,q 18 (.slStr 16 none (some 17))⟩,⟨3,qv 19 0⟩,⟨4,qv 20 5⟩,⟨5,qb 21 .add 20 (qI 1)⟩,⟨6,q 22 (.slStr 19 (some 21) none)⟩,⟨7,qv 2 18⟩,⟨8,qv 3 22⟩,⟨9,qv 4 qT⟩],[],none,[]⟩]) .ret) .skip))) (.ops [qv 10 5,qb 11 .add 10 (qI 1),qv 5 11]))
def fn57 : RFn := ⟨24,qo [qv 2 (qX []),qv 3 (qX []),qv 4 qF] (.seq (qo [qv 5 (qI 0)] (.block 0 (.loop bd57))) (qo [qv 23 0,qv 2 23,qv 3 (qX []),qv 4 qF] .ret)),[(.t 2),(.t 3),(.t 4)]⟩
abbrev bd58 : RC := .seq (qo [qv 22 3,qv 23 0,qs 24 23,qb 25 .lss 22 24] (.cond 25 .skip (.exit 0))) (.seq (.block 1 (qo [qv 28 0,qv 29 3,q 30 (.idxStr 28 29),qc 31 80 [30],qt 32 31] (.cond 32 (qo [qv 2 qF] .ret) .skip))) (.ops [qv 26 3,qb 27 .add 26 (qI 1),qv 3 27]))
def fn58 : RFn := ⟨33,qo [qv 2 qF] (.seq (qo [qv 4 0,qs 5 4,qb 6 .eql 5 (qI 0),qv 7 6,qg 8 7 false (.mv 0),qg 9 7 false (.lenStr 8),qg 10 7 false (.bin .gtr .i64 9 (qI 9)),qk 11 7 qT 10,qv 12 11,qg 13 12 false (.mv 0),qg 14 12 false (.lenStr 13),qg 15 12 false (.bin .gtr .i64 14 (qI 1)),qg 16 12 false (.mv 15),qg 17 16 true (.mv 0),qg 18 16 true (.idxStr 17 (qI 0)),qg 19 16 true (.bin .eql .u8 18 (.c (.int .u8 48))),qg 20 12 false (.pick 16 19 qF),qk 21 12 qT 20] (.cond 21 (qo [qv 2 qF] .ret) .skip)) (.seq (qo [qv 3 (qI 0)] (.block 0 (.loop bd58))) (qo [qv 2 qT] .ret))),[(.t 2)]⟩
abbrev bd59 : RC := .seq (qo [qv 5 4,qv 6 0,qs 7 6,qb 8 .lss 5 7] (.cond 8 .skip (.exit 0))) (.seq (.block 1 (.ops [qv 11 3,qb 12 .mul (qI 251) 11,qv 13 0,qv 14 4,q 15 (.idxStr 13 14),q 16 (.convI .u8 .i64 15),qb 17 .add 12 16,qb 18 .rem 17 (qI 1000003),qv 3 18])) (.ops [qv 9 4,qb 10 .add 9 (qI 1),qv 4 10]))
def fn59 : RFn := ⟨21,qo [qv 2 (qX [])] (qo [qv 3 (qI 7)] (.seq (qo [qv 4 (qI 0)] (.block 0 (.loop bd59))) (qo [qv 19 3,qc 20 63 [19],qv 2 20] .ret))),[(.t 2)]⟩
abbrev bd60 : RC := .seq (qo [qv 31 11,qv 32 7,qb 33 .lss 31 32] (.cond 33 .skip (.exit 0))) (.seq (.block 1 (.seq (qo [qv 36 6,qt 37 36] (.cond 37 (qo [q 38 (.build [vi 0,qz,.nils,.nils,qz] []),qw (.store 5 2 38),qv 3 qF] .ret) .skip)) (qo [qv 12 (qX [])] (qo [qv 40 5,qc 41 39 [40],qv 39 41,qe 42 39 0,qe 43 39 1,qe 44 39 2,qv 12 42,qv 5 43,qv 6 44] (.seq (qo [qv 45 12,q 46 (.strop .eql 45 (qX []))] (.cond 46 (qo [q 47 (.build [vi 0,qz,.nils,.nils,qz] []),qw (.store 5 2 47),qv 3 qF] .ret) .skip)) (.ops [qf 48 2 10,ql 49 48,qv 50 12,qm 51 (.buildSl [qz] 1 1 [(0,1,50)] 9),qm 52 (.append [qz] 1 16 49 51 9),qf 53 2 10,qw (.store 1 53 52)])))))) (.ops [qv 34 11,qb 35 .add 34 (qI 1),qv 11 35]))
def fn60 : RFn := ⟨70,qo [qm 2 (.alloc [vi 0,qz,.nils,.nils,qz] 25),qv 3 qF] (qo [qv 15 0,qc 16 39 [15],qv 14 16,qe 17 14 0,qe 18 14 1,qe 19 14 2,qv 4 17,qv 5 18,qv 6 19] (qo [qv 21 4,qc 22 35 [21],qv 20 22,qe 23 20 0,qe 24 20 1,qe 25 20 2,qv 7 23,qv 8 24,qv 9 25] (qo [qv 26 4,q 27 (.build [vi 0,qz,.nils,.nils,qz] [(1,1,26)]),qm 10 (.alloc [vi 0,qz,.nils,.nils,qz] 25),qw (.store 5 10 27)] (.seq (qo [qv 28 9,qt 29 28] (.cond 29 (qo [q 30 (.build [vi 0,qz,.nils,.nils,qz] []),qw (.store 5 2 30),qv 3 qF] .ret) .skip)) (.seq (qo [qv 11 (qI 0)] (.block 0 (.loop bd60))) (.seq (qo [qv 54 8,qt 55 54] (.cond 55 (qo [qm 56 (.load 5 true 10),qv 57 6,qt 58 57,qw (.store 5 2 56),qv 3 58] .ret) .skip)) (qo [qv 13 qF] (qo [qv 60 5,qc 61 81 [60],qv 59 61,qe 62 59 0,qe 63 59 1,qf 64 4 10,qw (.store 1 64 62),qv 13 63] (qo [qm 65 (.load 5 true 10),qv 66 6,qv 67 66,qg 68 67 true (.mv 13),qk 69 67 68 qF,qw (.store 5 2 65),qv 3 69] .ret))))))))),[(.c 2 5 true),(.t 3)]⟩
abbrev bd61 : RC := .seq (qo [qv 5 4,qv 6 0,qs 7 6,qb 8 .lss 5 7] (.cond 8 .skip (.exit 0))) (.seq (.block 1 (.ops [qv 11 3,qb 12 .mul (qI 10) 11,qv 13 0,qv 14 4,q 15 (.idxStr 13 14),q 16 (.bin .sub .u8 15 (.c (.int .u8 48))),q 17 (.convI .u8 .i64 16),qb 18 .add 12 17,qv 3 18])) (.ops [qv 9 4,qb 10 .add 9 (qI 1),qv 4 10]))
def fn61 : RFn := ⟨20,qo [qv 2 (qI 0)] (qo [qv 3 (qI 0)] (.seq (qo [qv 4 (qI 0)] (.block 0 (.loop bd61))) (qo [qv 19 3,qv 2 19] .ret))),[(.t 2)]⟩
abbrev bd62 : RC := .seq (qo [qv 35 6,qv 36 3,qb 37 .lss 35 36] (.cond 37 .skip (.exit 0))) (.seq (.block 1 (qo [qf 40 2 1,ql 41 40,qv 42 6,q 43 (.idxS 1 41 42),ql 44 43,qc 45 36 [44],qt 46 45] (.cond 46 (qo [qv 2 (qI 8)] .ret) .skip))) (.ops [qv 38 6,qb 39 .add 38 (qI 1),qv 6 39]))
def fn62 : RFn := ⟨58,qo [qm 1 (.box 0 25),qv 2 (qI 0)] (.seq (qo [qf 7 0 1,ql 8 7,qb 9 .lss 8 (qI 1),qv 10 9,qg 11 10 false (.fieldA 0 1),qmg 12 10 false (.load 1 false 11),qg 13 10 false (.bin .gtr .i64 12 (qI 1000)),qk 14 10 qT 13] (.cond 14 (qo [qv 2 (qI 3)] .ret) .skip)) (qo [qf 16 1 1,ql 17 16,qc 18 35 [17],qv 15 18,qe 19 15 0,qe 20 15 1,qe 21 15 2,qv 3 19,qv 4 20,qv 5 21] (.seq (qo [qv 22 5,qt 23 22] (.cond 23 (qo [qv 2 (qI 14)] .ret) .skip)) (.seq (qo [qf 24 2 1,ql 25 24,qS 26 25,qv 27 3,qb 28 .neq 26 27,qv 29 28,qg 30 29 false (.fieldA 3 1),qmg 31 29 false (.load 1 false 30),qg 32 29 false (.lenS 31),qg 33 29 false (.bin .gtr .i64 32 (qI 0)),qk 34 29 qT 33] (.cond 34 (qo [qv 2 (qI 2)] .ret) .skip)) (.seq (qo [qv 6 (qI 0)] (.block 0 (.loop bd62))) (.seq (qo [qv 47 4,qt 48 47,qv 49 48,qg 50 49 true (.fieldA 4 1),qmg 51 49 true (.load 1 false 50),qg 52 49 true (.strop .neq 51 (qX [])),qk 53 49 52 qF] (.cond 53 (qo [qv 2 (qI 1)] .ret) .skip)) (.seq (qo [qf 54 4 1,ql 55 54,qs 56 55,qb 57 .gtr 56 (qI 4096)] (.cond 57 (qo [qv 2 (qI 29)] .ret) .skip)) (qo [qv 2 (qI 0)] .ret)))))))),[(.t 2)]⟩
abbrev bd101 : RC := .seq (qo [qv 22 4,qb 23 .geq 22 (qI 0)] (.cond 23 .skip (.exit 0))) (.seq (.block 1 (.ops [qv 26 3,qf 27 1 1,ql 28 27,qv 29 4,q 30 (.idxS 1 28 29),ql 31 30,qc 32 198 [31,qI 9],q 33 (.strop .add 26 32),qv 3 33])) (.ops [qv 24 4,qb 25 .sub 24 (qI 1),qv 4 25]))
def fn101 : RFn := ⟨39,qo [qm 1 (.box 0 218),qv 2 (qX [])] (.seq (qo [qf 5 1 1,ql 6 5,qS 7 6,qb 8 .eql 7 (qI 0)] (.cond 8 (qo [qv 2 (qX [48])] .ret) .skip)) (qo [qf 9 1 1,ql 10 9,qf 11 1 1,ql 12 11,qS 13 12,qb 14 .sub 13 (qI 1),q 15 (.idxS 1 10 14),ql 16 15,qc 17 198 [16,qI 1],qv 3 17] (.seq (qo [qf 18 1 1,ql 19 18,qS 20 19,qb 21 .sub 20 (qI 2),qv 4 21] (.block 0 (.loop bd101))) (.seq (qo [qf 34 0 1,ql 35 34] (.cond 35 (qo [qv 36 3,q 37 (.strop .add (qX [45]) 36),qv 2 37] .ret) .skip)) (qo [qv 38 3,qv 2 38] .ret))))),[(.t 2)]⟩
abbrev bd102 : RC := .seq (qo [qv 8 0,qb 9 .neq 8 (qI 0)] (.cond 9 .skip (.exit 0))) (.block 1 (qo [qv 10 0,qb 11 .rem 10 (qI 1000000000),qv 5 11] (.seq (qo [qv 12 5,qb 13 .lss 12 (qI 0)] (.cond 13 (.ops [qv 14 5,qb 15 .sub (qI 0) 14,qv 5 15]) .skip)) (qo [qv 16 3,qv 17 5,qm 18 (.buildSl [vi 0] 1 1 [(0,1,17)] 3),qm 19 (.append [vi 0] 1 8 16 18 3),qv 3 19] (.ops [qv 20 0,qb 21 .quo 20 (qI 1000000000),qv 0 21])))))
def fn102 : RFn := ⟨25,qo [qm 2 (.alloc [.bool false,.nils] 218)] (qo [qv 3 (.c .nils)] (qo [qv 6 0,qb 7 .lss 6 (qI 0),qv 4 7] (.seq (.block 0 (.loop bd102)) (qo [qv 22 4,qv 23 3,qc 24 199 [22,23],qw (.store 2 2 24)] .ret)))),[(.c 2 2 true)]⟩
def fn103 : RFn := ⟨8,qo [qv 4 (qI 0)] (qo [qv 5 0,qv 6 1,qc 7 141 [5,6],qv 4 7] .ret),[(.t 4)]⟩
def fn114 : RFn := ⟨9,qo [qv 4 qF] (qo [qv 5 0,qv 6 1,qc 7 139 [5,6],qb 8 .geq 7 (qI 0),qv 4 8] .ret),[(.t 4)]⟩
def fn121 : RFn := ⟨20,qo [qv 2 0,qn 3 2,qf 4 0 3,ql 5 4,q 6 (.nilop .eql .pointer 5)] (.cond 6 (.ops [qv 7 0,qv 8 0,qm 9 (.toU 8),qc 10 216 [9],qm 11 (.frU [(125,0,2),(127,0,2)] 10),qn 12 7,qf 13 0 12,qw (.store 1 13 11)]) (qo [qv 14 0,qn 15 14,qf 16 0 15,ql 17 16,qv 18 0,q 19 (.ptrEq .neq 17 18)] (.cond 19 .bad .skip))),[]⟩
abbrev bd123 : RC := .seq (qo [qv 57 8,qv 58 9,qb 59 .lss 57 58] (.cond 59 .skip (.exit 1))) (.block 2 (.seq (qo [qv 60 0,qv 61 8,q 62 (.idxStr 60 61),qv 63 6,q 64 (.bin .neq .u8 62 63)] (.cond 64 (qo [qv 65 0,qv 66 8,qb 67 .add 66 (qI 1),qv 68 9,q 69 (.slStr 65 (some 67) (some 68)),qv 70 6,qc 71 219 [69,70],qv 11 71] (.seq (qo [qv 72 11,qb 73 .lss 72 (qI 0)] (.cond 73 (qo [qv 4 (qI (-1))] .ret) .skip)) (.ops [qv 74 8,qv 75 11,qb 76 .add 75 (qI 1),qb 77 .add 74 76,qv 8 77]))) .skip)) (.seq (qo [qv 78 0,qv 79 8,qb 80 .add 79 (qI 1),q 81 (.idxStr 78 80),qv 82 7,q 83 (.bin .eql .u8 81 82),qv 84 83,qg 85 84 true (.mv 0),qg 86 84 true (.mv 8),qg 87 84 true (.mv 8),qg 88 84 true (.mv 5),qg 89 84 true (.bin .add .i64 87 88),qg 90 84 true (.slStr 85 (some 86) (some 89)),qg 91 84 true (.mv 1),qg 92 84 true (.strop .eql 90 91),qk 93 84 92 qF] (.cond 93 (qo [qv 94 8,qv 4 94] .ret) .skip)) (qo [qv 95 8,qb 96 .add 95 (qI 1),qv 8 96] (qo [qv 97 10,qb 98 .add 97 (qI 1),qv 10 98] (qo [qv 99 5,ql 100 (.c .u),qb 101 .leq 99 100,qv 102 101,qg 103 102 true (.mv 10),qg 104 102 true (.mv 8),qcg 105 102 true 221 [104],qg 106 102 true (.bin .gtr .i64 103 105),qk 107 102 106 qF] (.cond 107 (qo [qv 108 0,qv 109 8,q 110 (.slStr 108 (some 109) none),qv 111 1,qc 112 220 [110,111],qv 12 112] (.seq (qo [qv 113 12,qb 114 .geq 113 (qI 0)] (.cond 114 (qo [qv 115 12,qv 116 8,qb 117 .add 115 116,qv 4 117] .ret) .skip)) (qo [qv 4 (qI (-1))] .ret))) (qo [qv 118 5,ql 119 (.c .u),qb 120 .gtr 118 119,qv 121 120,qg 122 121 true (.mv 10),qg 123 121 true (.mv 8),qg 124 121 true (.shift .shr .i64 .u64 123 (.c (.int .u64 4))),qg 125 121 true (.bin .add .i64 (qI 4) 124),qg 126 121 true (.bin .geq .i64 122 125),qk 127 121 126 qF,qv 128 127,qg 129 128 true (.mv 8),qg 130 128 true (.mv 9),qg 131 128 true (.bin .lss .i64 129 130),qk 132 128 131 qF] (.cond 132 (qo [qv 133 0,qv 134 8,q 135 (.slStr 133 (some 134) none),qv 136 1,qc 137 222 [135,136],qv 13 137] (.seq (qo [qv 138 13,qb 139 .lss 138 (qI 0)] (.cond 139 (qo [qv 4 (qI (-1))] .ret) .skip)) (qo [qv 140 8,qv 141 13,qb 142 .add 140 141,qv 4 142] .ret))) .skip)))))))))
def fn123 : RFn := ⟨143,qo [qv 4 (qI 0)] (qo [qv 14 1,qs 15 14,qv 5 15] (.seq (.block 0 (qo [qv 17 5,qb 18 .eql 17 (qI 0),qv 19 18,qg 20 19 false (.mv 1),qg 21 19 false (.mv 0),qg 22 19 false (.strop .eql 20 21),qk 23 19 qT 22,qv 16 23] (.cond 16 (qo [qv 4 (qI 0)] .ret) (qo [qv 25 5,qb 26 .eql 25 (qI 1),qv 24 26] (.cond 24 (qo [qv 27 0,qv 28 1,q 29 (.idxStr 28 (qI 0)),qc 30 219 [27,29],qv 4 30] .ret) (qo [qv 32 5,qv 33 0,qs 34 33,qb 35 .geq 32 34,qv 31 35] (.cond 31 (qo [qv 4 (qI (-1))] .ret) (qo [qv 37 5,ql 38 (.c .u),qb 39 .leq 37 38,qv 40 39,qg 41 40 true (.mv 0),qg 42 40 true (.lenStr 41),qg 43 40 true (.bin .leq .i64 42 (qI 64)),qk 44 40 43 qF,qv 36 44] (.cond 36 (qo [qv 45 0,qv 46 1,qc 47 220 [45,46],qv 4 47] .ret) .skip))))))))) (qo [qv 48 1,q 49 (.idxStr 48 (qI 0)),qv 6 49] (qo [qv 50 1,q 51 (.idxStr 50 (qI 1)),qv 7 51] (qo [qv 8 (qI 0)] (qo [qv 52 0,qs 53 52,qv 54 5,qb 55 .sub 53 54,qb 56 .add 55 (qI 1),qv 9 56] (qo [qv 10 (qI 0)] (.seq (.block 1 (.loop bd123)) (qo [qv 4 (qI (-1))] .ret))))))))),[(.t 4)]⟩
abbrev bd124 : RC := qo [qm 9 (.next 8),qe 10 9 0] (.seq (.cond 10 .skip (.exit 0)) (.block 1 (qo [qe 11 9 1,qe 12 9 2,qv 5 11,qv 6 12] (qo [qv 13 1,qv 14 6,⟨some 15,none,.callv 13 [14]⟩,qt 16 15] (.cond 16 (qo [qv 17 5,qv 4 17] .ret) .skip)))))
def fn124 : RFn := ⟨20,qo [qv 4 (qI 0)] (.seq (qo [qv 7 0,qm 8 (.range 7)] (.block 0 (.loop bd124))) (qo [qv 18 0,qs 19 18,qv 4 19] .ret)),[(.t 4)]⟩
def fn125 : RFn := ⟨9,qo [qv 2 qF] (qo [qv 3 0,q 4 (.bin .geq .i32 3 (.c (.int .i32 48))),qv 5 4,qg 6 5 true (.mv 0),qg 7 5 true (.bin .leq .i32 6 (.c (.int .i32 57))),qk 8 5 7 qF,qv 2 8] .ret),[(.t 2)]⟩
def fn127 : RFn := ⟨21,qo [qv 3 (qX [])] (qo [qv 4 (qX [])] (qo [ql 5 0,qv 6 5,qmg 7 6 true (.load 1 false 1),qk 8 6 7 qF,qw (.store 1 0 8)] (qo [ql 10 2,qc 11 31 [10,qX [32]],qv 9 11,qe 12 9 0,qe 13 9 1,qe 14 9 2,qv 4 12,qw (.store 1 2 13),qw (.store 1 1 14)] (qo [ql 15 0,qv 16 15,qg 17 16 true (.mv 4),qg 18 16 true (.strop .neq 17 (qX [])),qk 19 16 18 qF,qw (.store 1 0 19)] (qo [qv 20 4,qv 3 20] .ret))))),[(.t 3)]⟩
abbrev bd128 : RC := .seq (qo [qv 10 0,q 11 (.strop .neq 10 (qX []))] (.cond 11 .skip (.exit 0))) (.block 1 (qo [qv 13 0,qc 14 31 [13,qX [92]],qv 12 14,qe 15 12 0,qe 16 12 1,qe 17 12 2,qv 5 15,qv 6 16,qv 7 17] (qo [qv 18 5,qc 19 69 [4,18]] (.seq (qo [qv 20 7,qt 21 20] (.cond 21 (.exit 0) .skip)) (.seq (.block 2 (qo [qv 23 6,qc 24 145 [23,qX [92]],qv 22 24] (.cond 22 (.ops [qc 25 69 [4,qX [92]]]) (qo [qv 27 6,qc 28 145 [27,qX [110]],qv 26 28] (.cond 26 (.ops [qc 29 69 [4,qX [10]]]) (qo [qv 2 (qX []),qv 3 qF] .ret)))))) (.ops [qv 30 6,q 31 (.slStr 30 (some (qI 1)) none),qv 0 31]))))))
def fn128 : RFn := ⟨33,qo [qv 2 (qX []),qv 3 qF] (.seq (qo [qv 8 0,qc 9 64 [8,qX [10]]] (.cond 9 (qo [qv 2 (qX []),qv 3 qF] .ret) .skip)) (qo [qm 4 (.alloc [.nilp,.nils] 125)] (.seq (.block 0 (.loop bd128)) (qo [qc 32 58 [4],qv 2 32,qv 3 qT] .ret)))),[(.t 2),(.t 3)]⟩
def fn129 : RFn := ⟨6,qo [qv 2 qF] (qo [qv 3 0,qc 4 47 [3],qt 5 4,qv 2 5] .ret),[(.t 2)]⟩
def fn130 : RFn := ⟨9,qo [qv 2 qF] (qo [qv 3 0,q 4 (.bin .geq .u8 3 (.c (.int .u8 48))),qv 5 4,qg 6 5 true (.mv 0),qg 7 5 true (.bin .leq .u8 6 (.c (.int .u8 57))),qk 8 5 7 qF,qv 2 8] .ret),[(.t 2)]⟩
def fn131 : RFn := ⟨17,qo [qv 2 (qI 0),qv 3 qF,qv 4 qF] (.seq (qo [qv 5 0,q 6 (.strop .eql 5 (qX [100,114,97,119]))] (.cond 6 (qo [qv 2 (qI 1),qv 3 qT,qv 4 qT] .ret) .skip)) (.seq (qo [qv 7 0,q 8 (.strop .eql 7 (qX [98,114,97,110,99,104])),qv 9 8,qg 10 9 false (.mv 0),qg 11 9 false (.strop .eql 10 (qX [109,101,114,103,101])),qk 12 9 qT 11] (.cond 12 (qo [qv 2 (qI 2),qv 3 qF,qv 4 qT] .ret) .skip)) (.seq (qo [qv 13 0,q 14 (.strop .eql 13 (qX [110,111,116,101]))] (.cond 14 (qo [qv 2 (qI 0),qv 3 qT,qv 4 qT] .ret) .skip)) (qo [qv 15 0,q 16 (.strop .eql 15 (qX [117,110,100,111])),qv 2 (qI 0),qv 3 qF,qv 4 16] .ret)))),[(.t 2),(.t 3),(.t 4)]⟩
abbrev bd132 : RC := .seq (qo [qv 6 5,qv 7 0,qs 8 7,qb 9 .lss 6 8] (.cond 9 .skip (.exit 0))) (.seq (.block 1 (.seq (qo [qv 12 0,qv 13 5,q 14 (.idxStr 12 13),q 15 (.bin .eql .u8 14 (.c (.int .u8 10)))] (.cond 15 (qo [qv 2 (qX []),qv 3 qF] .ret) .skip)) (.seq (qo [qv 16 0,qv 17 5,q 18 (.idxStr 16 17),q 19 (.bin .neq .u8 18 (.c (.int .u8 92)))] (.cond 19 (qo [qv 20 4,qv 21 0,qv 22 5,qv 23 5,qb 24 .add 23 (qI 1),q 25 (.slStr 21 (some 22) (some 24)),q 26 (.strop .add 20 25),qv 4 26] (.exit 1)) .skip)) (qo [qv 27 5,qb 28 .add 27 (qI 1),qv 5 28] (.seq (qo [qv 29 5,qv 30 0,qs 31 30,qb 32 .eql 29 31,qv 33 32,qg 34 33 false (.mv 0),qg 35 33 false (.mv 5),qg 36 33 false (.idxStr 34 35),qg 37 33 false (.bin .neq .u8 36 (.c (.int .u8 110))),qg 38 33 false (.mv 37),qg 39 38 true (.mv 0),qg 40 38 true (.mv 5),qg 41 38 true (.idxStr 39 40),qg 42 38 true (.bin .neq .u8 41 (.c (.int .u8 92))),qg 43 33 false (.pick 38 42 qF),qk 44 33 qT 43] (.cond 44 (qo [qv 2 (qX []),qv 3 qF] .ret) .skip)) (qo [qv 45 0,qv 46 5,q 47 (.idxStr 45 46),q 48 (.bin .eql .u8 47 (.c (.int .u8 110)))] (.cond 48 (.ops [qv 49 4,q 50 (.strop .add 49 (qX [10])),qv 4 50]) (.ops [qv 51 4,q 52 (.strop .add 51 (qX [92])),qv 4 52])))))))) (.ops [qv 10 5,qb 11 .add 10 (qI 1),qv 5 11]))
def fn132 : RFn := ⟨54,qo [qv 2 (qX []),qv 3 qF] (qo [qv 4 (qX [])] (.seq (qo [qv 5 (qI 0)] (.block 0 (.loop bd132))) (qo [qv 53 4,qv 2 53,qv 3 qT] .ret))),[(.t 2),(.t 3)]⟩
abbrev bd133 : RC := .seq (qo [qv 14 3,qv 15 0,qs 16 15,qb 17 .lss 14 16] (.cond 17 .skip (.exit 0))) (.seq (.block 1 (qo [qv 20 0,qv 21 3,q 22 (.idxStr 20 21),qv 4 22] (qo [qv 23 4,q 24 (.bin .geq .u8 23 (.c (.int .u8 97))),qv 25 24,qg 26 25 true (.mv 4),qg 27 25 true (.bin .leq .u8 26 (.c (.int .u8 122))),qk 28 25 27 qF,qv 29 28,qg 30 29 false (.mv 4),qg 31 29 false (.bin .geq .u8 30 (.c (.int .u8 65))),qg 32 29 false (.mv 31),qg 33 32 true (.mv 4),qg 34 32 true (.bin .leq .u8 33 (.c (.int .u8 90))),qg 35 29 false (.pick 32 34 qF),qk 36 29 qT 35,qv 5 36] (qo [qv 37 5,qt 38 37,qv 39 38,qg 40 39 true (.mv 3),qg 41 39 true (.bin .eql .i64 40 (qI 0)),qg 42 39 true (.mv 41),qg 43 42 false (.mv 4),qg 44 42 false (.bin .geq .u8 43 (.c (.int .u8 48))),qg 45 42 false (.mv 44),qg 46 45 true (.mv 4),qg 47 45 true (.bin .leq .u8 46 (.c (.int .u8 57))),qg 48 42 false (.pick 45 47 qF),qg 49 42 false (.mv 48),qg 50 49 false (.mv 4),qg 51 49 false (.bin .eql .u8 50 (.c (.int .u8 95))),qg 52 42 false (.pick 49 qT 51),qg 53 42 false (.not 52),qg 54 39 true (.pick 42 qT 53),qk 55 39 54 qF] (.cond 55 (qo [qv 2 qF] .ret) .skip))))) (.ops [qv 18 3,qb 19 .add 18 (qI 1),qv 3 19]))
def fn133 : RFn := ⟨56,qo [qv 2 qF] (.seq (qo [qv 6 0,qs 7 6,qb 8 .lss 7 (qI 1),qv 9 8,qg 10 9 false (.mv 0),qg 11 9 false (.lenStr 10),qg 12 9 false (.bin .gtr .i64 11 (qI 24)),qk 13 9 qT 12] (.cond 13 (qo [qv 2 qF] .ret) .skip)) (.seq (qo [qv 3 (qI 0)] (.block 0 (.loop bd133))) (qo [qv 2 qT] .ret))),[(.t 2)]⟩
def fn151 : RFn := ⟨8,qo [qv 4 qF] (qo [qv 5 0,qv 6 1,qc 7 229 [5,6],qv 4 7] .ret),[(.t 4)]⟩
abbrev bd188 : RC := .seq (qo [qv 6 0,qb 7 .gtr 6 (qI 0),qv 8 7,qg 9 8 false (.mv 5),qg 10 8 false (.lenStr 9),qg 11 8 false (.mv 1),qg 12 8 false (.bin .lss .i64 10 11),qk 13 8 qT 12] (.cond 13 .skip (.exit 0))) (.block 1 (qo [qv 14 0,qb 15 .rem 14 (qI 10),qv 16 0,qb 17 .rem 16 (qI 10),qb 18 .add 17 (qI 1),q 19 (.slStr (qX [48,49,50,51,52,53,54,55,56,57]) (some 15) (some 18)),qv 20 5,q 21 (.strop .add 19 20),qv 5 21] (.ops [qv 22 0,qb 23 .quo 22 (qI 10),qv 0 23])))
def fn188 : RFn := ⟨25,qo [qv 4 (qX [])] (qo [qv 5 (qX [])] (.seq (.block 0 (.loop bd188)) (qo [qv 24 5,qv 4 24] .ret))),[(.t 4)]⟩
def fn189 : RFn := ⟨15,qo [qm 4 (.alloc [.bool false,.nils] 218)] (qo [qv 5 1,qc 6 292 [5],qv 1 6] (qo [qv 7 0,qv 8 7,qg 9 8 true (.mv 1),qg 10 8 true (.lenS 9),qg 11 8 true (.bin .gtr .i64 10 (qI 0)),qk 12 8 11 qF,qv 13 1,q 14 (.build [.bool false,.nils] [(0,1,12),(1,1,13)]),qw (.store 2 4 14)] .ret)),[(.c 4 2 true)]⟩
abbrev bd203 : RC := qo [qb 9 .lss 8 7] (.seq (.cond 9 .skip (.exit 0)) (.seq (.block 1 (qo [qv 10 8,qv 5 10] (qo [qv 11 1,qv 12 0,qv 13 5,q 14 (.idxS 1 12 13),ql 15 14,⟨some 16,none,.callv 11 [15]⟩] (.cond 16 (qo [qv 17 5,qv 4 17] .ret) .skip)))) (.ops [qb 18 .add 8 (qI 1),qv 8 18])))
def fn203 : RFn := ⟨19,qo [qv 4 (qI 0)] (.seq (qo [qv 6 0,qS 7 6,qv 8 (qI 0)] (.block 0 (.loop bd203))) (qo [qv 4 (qI (-1))] .ret)),[(.t 4)]⟩
def fn209 : RFn := ⟨8,qo [qv 4 (qI 0)] (qo [qv 5 0,qv 6 1,qc 7 322 [5,6],qv 4 7] .ret),[(.t 4)]⟩
def fn222 : RFn := ⟨18,qo [qv 4 qF] (qo [qv 5 0,qs 6 5,qv 7 1,qs 8 7,qb 9 .geq 6 8,qv 10 9,qg 11 10 true (.mv 0),qg 12 10 true (.mv 1),qg 13 10 true (.lenStr 12),qg 14 10 true (.slStr 11 none (some 13)),qg 15 10 true (.mv 1),qg 16 10 true (.strop .eql 14 15),qk 17 10 16 qF,qv 4 17] .ret),[(.t 4)]⟩
abbrev bd279 : RC := .seq (qo [qv 3 0,qS 4 3,qb 5 .gtr 4 (qI 0),qv 6 5,qg 7 6 true (.mv 0),qg 8 6 true (.mv 0),qg 9 6 true (.lenS 8),qg 10 6 true (.bin .sub .i64 9 (qI 1)),qg 11 6 true (.idxS 1 7 10),qmg 12 6 true (.load 1 false 11),qg 13 6 true (.bin .eql .i64 12 (qI 0)),qk 14 6 13 qF] (.cond 14 .skip (.exit 0))) (.block 1 (.ops [qv 15 0,qv 16 0,qS 17 16,qb 18 .sub 17 (qI 1),q 19 (.slS 1 15 none (some 18) none),qv 0 19]))
def fn279 : RFn := ⟨21,qo [qv 2 (.c .nils)] (.seq (.block 0 (.loop bd279)) (qo [qv 20 0,qv 2 20] .ret)),[(.t 2)]⟩
end Go.Fm
namespace Go.Fm
theorem lt_t {i : Nat} {l : Bs} (h : i < l.length) : ltIK (i : Int) (Int.ofNat (lenL l)) = true := by rw [lenL_eq]; exact ltIK_tt (by show (i : Int) < (l.length : Int); omega)
theorem lt_f {i : Nat} {l : Bs} (h : l.length ≤ i) : ltIK (i : Int) (Int.ofNat (lenL l)) = false := by rw [lenL_eq]; exact ltIK_ff (by show (l.length : Int) ≤ (i : Int); omega)
theorem nth_m {a r : Bs} {c : UInt8} : nthL (a ++ c :: r) a.length = some c := by rw [nthL_eq]; simp
theorem le_len {i : Nat} {l : Bs} (h : i ≤ l.length) : leIK (i : Int) (Int.ofNat (lenL l)) = true := by rw [lenL_eq]; exact leIK_tt (by show (i : Int) ≤ (l.length : Int); omega)
theorem le_self (n : Int) : leIK n n = true := leIK_tt (Int.le_refl _)
theorem le_0 (n : Nat) : leIK 0 (n : Int) = true := leIK_tt (by omega)
theorem u8_t {c : UInt8} {k : Int} (h : (c.toNat : Int) = k) : eqIK (Int.ofNat c.toNat) k = true := eqIK_tt h
theorem u8_f {c : UInt8} {k : Int} (h : (c.toNat : Int) ≠ k) : eqIK (Int.ofNat c.toNat) k = false := eqIK_ff h
theorem u8_ne {c d : UInt8} (h : c ≠ d) : (c.toNat : Int) ≠ (d.toNat : Int) := fun e => h (UInt8.toNat_inj.1 (by omega))
theorem sl_pre (l : Bs) (i : Nat) : takeL (Nat.sub (toN (i : Int)) (toN 0)) (dropL (toN 0) l) = l.take i := by
 rw [takeL_eq, dropL_eq, toN_eq, toN_eq]; simp
theorem sl_mid (l : Bs) (i j : Nat) : takeL (Nat.sub (toN (j : Int)) (toN (i : Int))) (dropL (toN (i : Int)) l) = (l.drop i).take (j - i) := by
 rw [takeL_eq, dropL_eq, toN_eq, toN_eq]; simp
theorem sl_suf (l : Bs) (i : Nat) : takeL (Nat.sub (toN (Int.ofNat (lenL l))) (toN (i : Int))) (dropL (toN (i : Int)) l) = l.drop i := by
 rw [takeL_eq, dropL_eq, toN_eq, toN_eq, lenL_eq]
 simp [List.take_of_length_le]
theorem cutS_mem {c : UInt8} {l : Bs} (h : c ∈ l) : (cutS c l).2.2 = true := by
 cases e : (cutS c l).2.2 with
 | true => rfl
 | false => exact absurd h (cutS_none e).2.2
theorem wrap1 {i : Nat} (h : i ≤ 1000000000) : wrapK .i64 ((i : Int).add 1) = ((i + 1 : Nat) : Int) := by
 have e : (i : Int).add 1 = ((i + 1 : Nat) : Int) := rfl
 rw [e]; exact wrapS (by omega) (by omega)
theorem le_wrap1 {i : Nat} (h : i ≤ 1000000000) : leIK 0 (wrapK .i64 ((i : Int).add 1)) = true := by rw [wrap1 h]; exact le_0 _
theorem wrap1_le {i : Nat} (h : i ≤ 1000000000) {l : Bs} (hl : i + 1 ≤ l.length) : leIK (wrapK .i64 ((i : Int).add 1)) (Int.ofNat (lenL l)) = true := by rw [wrap1 h]; exact le_len hl
theorem sl_suf1 {i : Nat} (h : i ≤ 1000000000) (l : Bs) : takeL (Nat.sub (toN (Int.ofNat (lenL l))) (toN (wrapK .i64 ((i : Int).add 1)))) (dropL (toN (wrapK .i64 ((i : Int).add 1))) l) = l.drop (i + 1) := by rw [wrap1 h]; exact sl_suf l _
theorem res_str {x y : Bs} (h : x = y) : some (V.str ⟨⟨x⟩⟩) = some (vs' y) := by rw [h]
theorem res_int {k : IntKind} {x y : Int} (h : x = y) : some (V.int k x) = some (.int k y) := by rw [h]
theorem wrap1' {a : Bs} {c : UInt8} (h : a.length ≤ 1000000000) : wrapK .i64 ((a.length : Int).add 1) = (((a ++ [c]).length : Nat) : Int) := by rw [wrap1 h]; simp
section
variable {E : Env'} {Q : V → Mem → Nat → Prop}
attribute [local irreducible] callK loopK getM putM lenL nthL takeL dropL eqBs
theorem cut_loop {fu : Nat} {call : CE} {kN kR : KKN} {kE : Nat → KKN} {m : Mem} {n : Nat} {fi : List FI} : ∀ (r a : Bs) (k : Nat) (t : Tr 3 V), r.length < k → (a ++ r).length ≤ 100000 → (32 : UInt8) ∉ a →
  t.get 0 = some (vs' (a ++ r)) → t.get 5 = some (vi a.length) →
  (∀ t', (32 : UInt8) ∈ r → t'.get 2 = some (vs' (a ++ (cutS 32 r).1)) → t'.get 3 = some (vs' (cutS 32 r).2.1) → t'.get 4 = some (.bool true) → Ok Q (kR t' m n fi)) →
  (∀ t', (32 : UInt8) ∉ r → t'.get 0 = some (vs' (a ++ r)) → Ok Q (kE 0 t' m n fi)) →
  Ok Q (loopK (comp E bd57).run fu call kN kE kR k t m n fi) := by
 intro r
 induction r with
 | nil =>
  intro a k t hk hl ha t0 t5 h1 h2
  obtain ⟨k, rfl⟩ : ∃ k', k = k' + 1 := ⟨k - 1, by omega⟩
  rw [loopK_succ]
  obtain ⟨f_t, rfl⟩ := mkT_form [(0, _), (5, _)] ⟨t0, t5, trivial⟩
  conv => arg 2; whnf
  refine Ok.ff (lt_f (by simp)) ?_
  conv => arg 2; whnf
  exact h2 _ (by simp) rfl
 | cons c r ih =>
  intro a k t hk hl ha t0 t5 h1 h2
  obtain ⟨k, rfl⟩ : ∃ k', k = k' + 1 := ⟨k - 1, by omega⟩
  rw [loopK_succ]
  simp only [List.length_cons] at hk
  simp only [List.length_append, List.length_cons] at hl
  obtain ⟨f_t, rfl⟩ := mkT_form [(0, _), (5, _)] ⟨t0, t5, trivial⟩
  conv => arg 2; whnf
  refine Ok.tt (lt_t (by simp)) ?_
  conv => arg 2; whnf
  refine Ok.opt nth_m ?_
  conv => arg 2; whnf
  by_cases hc : c = 32
  ·refine Ok.tt (u8_t (by rw [hc]; rfl)) ?_
   conv => arg 2; whnf
   refine Ok.tt (le_len (by simp)) ?_
   conv => arg 2; whnf
   refine Ok.tt (le_wrap1 (by omega)) ?_
   conv => arg 2; whnf
   refine Ok.tt (wrap1_le (by omega) (by simp)) ?_
   conv => arg 2; whnf
   refine Ok.tt (le_self _) ?_
   conv => arg 2; whnf
   refine h1 _ (by simp [hc]) (res_str ?_) (res_str ?_) rfl
   ·refine (sl_pre _ _).trans ?_
    simp [cutS, hc]
   ·refine (sl_suf1 (by omega) _).trans ?_
    simp [cutS, hc]
  ·refine Ok.ff (u8_f (u8_ne hc)) ?_
   conv => arg 2; whnf
   refine ih (a ++ [c]) k _ (by omega) (by simp; omega) (by simp [ha]; exact fun e => hc e.symm) (res_str (by simp)) (res_int (wrap1' (a := a) (c := c) (show a.length ≤ 1000000000 by omega))) ?_ ?_
   ·intro t' hm e2 e3 e4
    exact h1 t' (by simp [hm]) (by rw [e2]; simp [cutS, hc]) (by rw [e3]; simp [cutS, hc]) e4
   ·intro t' hm e0
    exact h2 t' (by simp [hm]; exact fun e => hc e.symm) (by rw [e0]; simp)
theorem g57 (h : Has E 39 fn57) {l : Bs} (hl : l.length ≤ 100000) : Gives E 39 [vs' l] (.tup [vs' (cutS 32 l).1, vs' (cutS 32 l).2.1, .bool (cutS 32 l).2.2]) := by
 refine h.gives (l.length + 50) ?_
 conv => arg 2; whnf
 refine cut_loop l [] _ _ (by omega) (by simpa using hl) (by simp) rfl rfl ?_ ?_
 ·intro t' hm t'2 t'3 t'4
  obtain ⟨f_tp, rfl⟩ := mkT_form [(2, _), (3, _), (4, _)] ⟨t'2, t'3, t'4, trivial⟩
  conv => arg 2; whnf
  refine Ok.done ?_
  show V.tup [vs' ([] ++ (cutS 32 l).1), vs' (cutS 32 l).2.1, .bool true] = _
  rw [cutS_mem hm]; rfl
 ·intro t' hm t'0
  obtain ⟨f_tp, rfl⟩ := mkT_form [(0, _)] ⟨t'0, trivial⟩
  conv => arg 2; whnf
  refine Ok.done ?_
  show V.tup [vs' l, vs' [], .bool false] = _
  rw [cutS_not hm]
end
end Go.Fm
namespace Go.Fm
def sT (g : Bs → V) : List V → Option V := fun vs => match vs with
 | [.str s] => if s.data.toList.length ≤ 100000 then some (g s.data.toList) else none
 | _ => none
theorem sT_at {g : Bs → V} {l : Bs} (h : l.length ≤ 100000) : sT g [vs' l] = some (g l) := by
 show (if l.length ≤ 100000 then some (g l) else none) = _
 rw [if_pos h]
theorem sT_inv {g : Bs → V} {vs : List V} {v : V} (h : sT g vs = some v) : ∃ l : Bs, vs = [vs' l] ∧ l.length ≤ 100000 ∧ g l = v := by
 unfold sT at h
 split at h
 ·rename_i s
  split at h
  ·rename_i hl
   injection h with h
   exact ⟨s.data.toList, rfl, hl, h⟩
  ·cases h
 ·cases h
def tDig8 : List V → Option V
 | [.int .u8 c] => some (.bool (decide (48 ≤ c) && decide (c ≤ 57)))
 | _ => none
theorem tDig8_at (c : UInt8) : tDig8 [.int .u8 (Int.ofNat c.toNat)] = some (.bool (digB c)) := by
 show some (V.bool (decide ((48 : Int) ≤ (c.toNat : Int)) && decide ((c.toNat : Int) ≤ 57))) = _
 have e1 : decide ((48 : Int) ≤ (c.toNat : Int)) = decide (48 ≤ c.toNat) := decide_eq_decide.2 (by omega)
 have e2 : decide ((c.toNat : Int) ≤ 57) = decide (c.toNat ≤ 57) := decide_eq_decide.2 (by omega)
 rw [e1, e2]; rfl
theorem leIK_dec (a b : Int) : leIK a b = decide (a ≤ b) := by rw [leIK_eq]; rfl
theorem Ok.eq {v w : V} {m : Mem} {n : Nat} (h : v = w) : Ok (fun v' _ _ => v' = w) (some (v, m, n)) := Ok.done h
theorem Ok.eqB {x y : Bool} {m : Mem} {n : Nat} (h : x = y) : Ok (fun v' _ _ => v' = V.bool y) (some (.bool x, m, n)) := Ok.done (by rw [h])
theorem Ok.eqS {x y : Bs} {m : Mem} {n : Nat} (h : x = y) : Ok (fun v' _ _ => v' = vs' y) (some (.str ⟨⟨x⟩⟩, m, n)) := Ok.done (by rw [h])
theorem Ok.eqI {k : IntKind} {x y : Int} {m : Mem} {n : Nat} (h : x = y) : Ok (fun v' _ _ => v' = V.int k y) (some (.int k x, m, n)) := Ok.done (by rw [h])
theorem Has.gives2 {E : Env'} {f : FuncId} {fn : RFn} (h : Has E f fn) {vs : List V} {v : V} (fu : Nat) (hl : vs.length ≤ fn.nt)
  (hr : Ok (fun v' _ _ => v' = v) (argsC vs 0 z3 fun t => (comp E fn.body).run fu (callK E fu) t y6 0 [] (endF E fu (callK E fu) fn.res) noE (endF E fu (callK E fu) fn.res))) : Gives E f vs v := by
 refine h.gives fu ?_
 rw [fn_run hl, nil_y]
 exact hr
section
variable {E : Env'} {Q : V → Mem → Nat → Prop}
attribute [local irreducible] callK loopK getM putM lenL nthL takeL dropL eqBs
theorem g130 (h : Has E 80 fn130) (c : Int) : Gives E 80 [.int .u8 c] (.bool (decide (48 ≤ c) && decide (c ≤ 57))) := by
 refine h.gives 50 ?_
 conv => arg 2; whnf
 by_cases h1 : 48 ≤ c
 ·have e1 := leIK_tt h1
  repeat ((first | refine Ok.T ?_); conv => arg 2; whnf)
  refine Ok.eqB ?_
  rw [show decide (48 ≤ c) = true from decide_eq_true h1, ← leIK_dec]; rfl
 ·have e1 := leIK_ff (show c < 48 by omega)
  repeat ((first | refine Ok.F ?_); conv => arg 2; whnf)
  refine Ok.eqB ?_
  rw [show decide (48 ≤ c) = false from decide_eq_false h1]; rfl
theorem isInt_loop (h130 : E.nat.get 80 = some tDig8) {fu : Nat} {kN kR : KKN} {kE : Nat → KKN} {m : Mem} {n : Nat} {fi : List FI} : ∀ (r a : Bs) (k : Nat) (t : Tr 3 V), r.length < k → (a ++ r).length ≤ 100000 →
  t.get 0 = some (vs' (a ++ r)) → t.get 3 = some (vi a.length) →
  (∀ t', r.all digB = false → t'.get 2 = some (.bool false) → Ok Q (kR t' m n fi)) →
  (∀ t', r.all digB = true → Ok Q (kE 0 t' m n fi)) →
  Ok Q (loopK (comp E bd58).run (fu + 1) (callK E (fu + 1)) kN kE kR k t m n fi) := by
 intro r
 induction r with
 | nil =>
  intro a k t hk hl t0 t3 h1 h2
  obtain ⟨k, rfl⟩ : ∃ k', k = k' + 1 := ⟨k - 1, by omega⟩
  rw [loopK_succ]
  obtain ⟨f_t, rfl⟩ := mkT_form [(0, _), (3, _)] ⟨t0, t3, trivial⟩
  conv => arg 2; whnf
  refine Ok.ff (lt_f (by simp)) ?_
  conv => arg 2; whnf
  exact h2 _ rfl
 | cons c r ih =>
  intro a k t hk hl t0 t3 h1 h2
  obtain ⟨k, rfl⟩ : ∃ k', k = k' + 1 := ⟨k - 1, by omega⟩
  rw [loopK_succ]
  simp only [List.length_cons] at hk
  simp only [List.length_append, List.length_cons] at hl
  obtain ⟨f_t, rfl⟩ := mkT_form [(0, _), (3, _)] ⟨t0, t3, trivial⟩
  conv => arg 2; whnf
  repeat ((first | refine Ok.tt (lt_t (by simp)) ?_ | refine Ok.opt nth_m ?_ | refine Ok.opt (callK_nat h130 _ (tDig8_at c) _ _) ?_); conv => arg 2; whnf)
  cases hc : digB c with
  | false =>
   conv => arg 2; whnf
   exact h1 _ (by simp [hc]) rfl
  | true =>
   conv => arg 2; whnf
   refine ih (a ++ [c]) k _ (by omega) (by simp; omega) (res_str (by simp)) (res_int (wrap1' (a := a) (c := c) (show a.length ≤ 1000000000 by omega))) ?_ ?_
   ·intro t' hm e2
    exact h1 t' (by simp [hm]) e2
   ·intro t' hm
    exact h2 t' (by simp [hm, hc])
theorem g58 (h : Has E 40 fn58) (h130 : E.nat.get 80 = some tDig8) {l : Bs} (hl : l.length ≤ 100000) : Gives E 40 [vs' l] (.bool (isIntS l)) := by
 refine h.gives (l.length + 50) ?_
 conv => arg 2; whnf
 cases l with
 | nil =>
  have e0 : eqIK (Int.ofNat (lenL ([] : Bs))) 0 = true := by rw [lenL_eq]; rfl
  repeat ((first | refine Ok.T ?_); conv => arg 2; whnf)
  refine Ok.eqB ?_
  rfl
 | cons c r =>
  have e0 : eqIK (Int.ofNat (lenL (c :: r))) 0 = false := by rw [lenL_eq]; exact eqIK_ff (by simp; omega)
  by_cases h9 : 9 < (c :: r).length
  ·have e1 : ltIK 9 (Int.ofNat (lenL (c :: r))) = true := by rw [lenL_eq]; exact ltIK_tt (by simp at h9 ⊢; omega)
   repeat ((first | refine Ok.T ?_ | refine Ok.F ?_); conv => arg 2; whnf)
   refine Ok.eqB ?_
   unfold isIntS; rw [show decide ((c :: r).length ≤ 9) = false from decide_eq_false (by omega)]; simp
  ·have e1 : ltIK 9 (Int.ofNat (lenL (c :: r))) = false := by rw [lenL_eq]; exact ltIK_ff (by simp at h9 ⊢; omega)
   have d9 : decide ((c :: r).length ≤ 9) = true := decide_eq_true (by omega)
   by_cases h1 : r = []
   ·subst h1
    have e2 : ltIK 1 (Int.ofNat (lenL ([c] : Bs))) = false := by rw [lenL_eq]; exact ltIK_ff (show (1 : Int) ≤ 1 by omega)
    repeat ((first | refine Ok.F ?_); conv => arg 2; whnf)
    refine isInt_loop h130 [c] [] _ _ (by simp) (by simp) rfl rfl ?_ ?_
    ·intro t' hm t'2
     obtain ⟨f_tp, rfl⟩ := mkT_form [(2, _)] ⟨t'2, trivial⟩
     conv => arg 2; whnf
     refine Ok.eqB ?_
     unfold isIntS; rw [hm, d9]; simp
    ·intro t' hm
     conv => arg 2; whnf
     refine Ok.eqB ?_
     unfold isIntS; rw [hm, d9]; simp
   ·have e2 : ltIK 1 (Int.ofNat (lenL (c :: r))) = true := by
     rw [lenL_eq]
     refine ltIK_tt ?_
     have : 0 < r.length := List.length_pos_iff.2 h1
     simp; omega
    have en : nthL (c :: r) 0 = some c := by rw [nthL_eq]; rfl
    repeat ((first | refine Ok.T ?_ | refine Ok.F ?_ | refine Ok.opt (by with_reducible first | exact en) ?_); conv => arg 2; whnf)
    by_cases hc : c = 48
    ·have e3 := u8_t (c := c) (k := 48) (by rw [hc]; rfl)
     repeat ((first | refine Ok.T ?_); conv => arg 2; whnf)
     refine Ok.eqB ?_
     unfold isIntS; simp [hc, h1]
    ·have e3 := u8_f (c := c) (k := 48) (u8_ne hc)
     repeat ((first | refine Ok.F ?_); conv => arg 2; whnf)
     refine isInt_loop h130 (c :: r) [] _ _ (by simp) (by simpa using hl) rfl rfl ?_ ?_
     ·intro t' hm t'2
      obtain ⟨f_tp, rfl⟩ := mkT_form [(2, _)] ⟨t'2, trivial⟩
      conv => arg 2; whnf
      refine Ok.eqB ?_
      unfold isIntS; rw [hm, d9]; simp
     ·intro t' hm
      conv => arg 2; whnf
      refine Ok.eqB ?_
      unfold isIntS; rw [hm, d9]; simp [hc]
end
end Go.Fm
namespace Go.Fm
theorem intS_snoc (a : Bs) (c : UInt8) : intS (a ++ [c]) = 10 * intS a + (c.toNat - 48) := by simp [intS]
theorem intS_lt : ∀ (a : Bs), a.all digB = true → intS a < 10 ^ a.length := by
 intro a
 suffices h : ∀ (a b : Bs), a.all digB = true → intS b < 10 ^ b.length → intS (b ++ a) < 10 ^ (b ++ a).length by
  intro ha; exact h a [] ha (by simp [intS])
 intro a
 induction a with
 | nil => intro b _ hb; simpa using hb
 | cons c r ih =>
  intro b hc hb
  simp only [List.all_cons, Bool.and_eq_true] at hc
  have := ih (b ++ [c]) hc.2 (by
   rw [intS_snoc, List.length_append, List.length_singleton, Nat.pow_succ]
   have : c.toNat ≤ 57 := by have := hc.1; simp [digB] at this; exact this.2
   omega)
  simpa using this
theorem dig_wrap {n : Nat} {c : UInt8} (hn : n < 1000000000) (hc : digB c = true) : wrapK .i64 ((wrapK .i64 ((10 : Int).mul (n : Int))).add (wrapK .i64 (wrapK .u8 ((Int.ofNat c.toNat).sub 48)))) = ((10 * n + (c.toNat - 48) : Nat) : Int) := by
 simp only [digB, Bool.and_eq_true, decide_eq_true_eq] at hc
 have e1 : wrapK .u8 ((Int.ofNat c.toNat).sub 48) = ((c.toNat - 48 : Nat) : Int) := by
  have : (Int.ofNat c.toNat).sub 48 = ((c.toNat - 48 : Nat) : Int) := by show (c.toNat : Int) - 48 = _; omega
  rw [this, wrapK_eq]
  have h8 : IntKind.u8.wrap ((c.toNat - 48 : Nat) : Int) = ((c.toNat - 48 : Nat) : Int) % 256 := by unfold IntKind.wrap; simp [IntKind.signed, IntKind.bits]
  rw [h8]; omega
 have e2 : (10 : Int).mul (n : Int) = ((10 * n : Nat) : Int) := by show (10 : Int) * (n : Int) = _; omega
 rw [e1, e2, wrapS (n := ((10 * n : Nat) : Int)) (by omega) (by omega), wrapS (n := ((c.toNat - 48 : Nat) : Int)) (by omega) (by omega)]
 have e3 : (((10 * n : Nat) : Int)).add ((c.toNat - 48 : Nat) : Int) = ((10 * n + (c.toNat - 48) : Nat) : Int) := rfl
 rw [e3]; exact wrapS (by omega) (by omega)
section
variable {E : Env'} {Q : V → Mem → Nat → Prop}
attribute [local irreducible] Ok callK loopK getM putM lenL nthL takeL dropL eqBs wrapK
theorem int_loop {fu : Nat} {call : CE} {kN kR : KKN} {kE : Nat → KKN} {m : Mem} {n : Nat} {fi : List FI} : ∀ (r a : Bs) (k : Nat) (t : Tr 3 V), r.length < k → (a ++ r).length ≤ 9 → (a ++ r).all digB = true →
  t.get 0 = some (vs' (a ++ r)) → t.get 3 = some (vi (intS a)) → t.get 4 = some (vi a.length) →
  (∀ t', t'.get 3 = some (vi (intS (a ++ r))) → Ok Q (kE 0 t' m n fi)) →
  Ok Q (loopK (comp E bd61).run fu call kN kE kR k t m n fi) := by
 intro r
 induction r with
 | nil =>
  intro a k t hk hl hd t0 t3 t4 h2
  obtain ⟨k, rfl⟩ : ∃ k', k = k' + 1 := ⟨k - 1, by omega⟩
  rw [loopK_succ]
  obtain ⟨f_t, rfl⟩ := mkT_form [(0, _), (3, _), (4, _)] ⟨t0, t3, t4, trivial⟩
  conv => arg 2; whnf
  refine Ok.ff (lt_f (by simp)) ?_
  conv => arg 2; whnf
  exact h2 _ (by rw [List.append_nil]; rfl)
 | cons c r ih =>
  intro a k t hk hl hd t0 t3 t4 h2
  obtain ⟨k, rfl⟩ : ∃ k', k = k' + 1 := ⟨k - 1, by omega⟩
  rw [loopK_succ]
  simp only [List.length_cons] at hk
  simp only [List.length_append, List.length_cons] at hl
  have hd' := hd
  simp only [List.all_append, List.all_cons, Bool.and_eq_true] at hd'
  have hlt : intS a < 1000000000 := Nat.lt_of_lt_of_le (intS_lt a hd'.1) (Nat.le_trans (Nat.pow_le_pow_right (by omega) (show a.length ≤ 8 by omega)) (by decide))
  obtain ⟨f_t, rfl⟩ := mkT_form [(0, _), (3, _), (4, _)] ⟨t0, t3, t4, trivial⟩
  conv => arg 2; whnf
  repeat ((first | refine Ok.tt (lt_t (by simp)) ?_ | refine Ok.opt nth_m ?_); conv => arg 2; whnf)
  refine ih (a ++ [c]) k _ (by omega) (by simp; omega) (by simpa using hd) (res_str (by simp)) (res_int ((dig_wrap hlt hd'.2.1).trans (by rw [intS_snoc]))) (res_int (wrap1' (a := a) (c := c) (show a.length ≤ 1000000000 by omega))) ?_
  intro t' h3
  exact h2 t' (by rw [h3]; simp)
theorem g61 (h : Has E 42 fn61) {l : Bs} (hl : l.length ≤ 9) (hd : l.all digB = true) : Gives E 42 [vs' l] (vi (intS l)) := by
 refine h.gives (l.length + 50) ?_
 conv => arg 2; whnf
 refine int_loop (E := E) l [] _ _ (by omega) (by simpa using hl) (by simpa using hd) rfl rfl rfl ?_
 intro t' t'3
 obtain ⟨f_tp, rfl⟩ := mkT_form [(3, _)] ⟨t'3, trivial⟩
 conv => arg 2; whnf
 exact Ok.eqI rfl
theorem tmod10 (x : Nat) : (x : Int).tmod 10 = ((x % 10 : Nat) : Int) := by
 rw [Int.tmod_eq_emod_of_nonneg (by omega)]; omega
theorem tdiv10 (x : Nat) : (x : Int).tdiv 10 = ((x / 10 : Nat) : Int) := by
 rw [Int.tdiv_eq_ediv_of_nonneg (by omega)]; omega
abbrev digs : Bs := [48, 49, 50, 51, 52, 53, 54, 55, 56, 57]
theorem digs_at : ∀ d : Fin 10, (digs.drop d.val).take 1 = [UInt8.ofNat (48 + d.val)] := by decide
theorem dig_cut (x : Nat) : takeL (Nat.sub (toN (wrapK .i64 (((x : Int).tmod 10).add 1))) (toN ((x : Int).tmod 10))) (dropL (toN ((x : Int).tmod 10)) digs) = [UInt8.ofNat (48 + x % 10)] := by
 rw [tmod10, wrap1 (by omega), takeL_eq, dropL_eq, toN_eq, toN_eq]
 have := digs_at ⟨x % 10, Nat.mod_lt _ (by omega)⟩
 simp only [Int.toNat_natCast]
 rw [show (x % 10 + 1).sub (x % 10) = 1 by show x % 10 + 1 - x % 10 = 1; omega]
 exact this
theorem dec_step {x : Nat} {out : Bs} (h : 0 < x ∨ out = []) : (if x / 10 = 0 ∧ (UInt8.ofNat (48 + x % 10) :: out : Bs) ≠ [] then (UInt8.ofNat (48 + x % 10) :: out : Bs) else Lib.decDigits (x / 10) ++ (UInt8.ofNat (48 + x % 10) :: out)) = (if x = 0 ∧ out ≠ [] then out else Lib.decDigits x ++ out) := by
 have hne : ¬ (x = 0 ∧ out ≠ []) := by rintro ⟨h1, h2⟩; rcases h with q | q; omega; exact h2 q
 rw [if_neg hne]; conv => rhs; rw [Lib.decDigits]
 by_cases h10 : x < 10
 ·rw [if_pos ⟨by omega, by simp⟩, dif_pos h10]
  simp [Nat.mod_eq_of_lt h10]
 ·rw [if_neg (by intro q; have := q.1; omega), dif_neg h10]
  simp
theorem dec_loop {fu : Nat} {call : CE} {kN kR : KKN} {kE : Nat → KKN} {m : Mem} {n : Nat} {fi : List FI} : ∀ (j x : Nat) (out : Bs) (k : Nat) (t : Tr 3 V), x < 10 ^ j → j < k → x < 1000000000 → 1 ≤ j ∨ out ≠ [] → out.length + j ≤ 20 →
  t.get 0 = some (vi x) → t.get 1 = some (vi 1) → t.get 5 = some (vs' out) →
  (∀ t', t'.get 5 = some (vs' (if x = 0 ∧ out ≠ [] then out else Lib.decDigits x ++ out)) → Ok Q (kE 0 t' m n fi)) →
  Ok Q (loopK (comp E bd188).run fu call kN kE kR k t m n fi) := by
 intro j
 induction j with
 | zero =>
  intro x out k t hx hk h9 hj hl t0 t1 t5 h2
  obtain ⟨k, rfl⟩ : ∃ k', k = k' + 1 := ⟨k - 1, by omega⟩
  rw [loopK_succ]
  simp only [Nat.pow_zero] at hx
  have x0 : x = 0 := by omega
  have ho : out ≠ [] := by rcases hj with q | q; omega; exact q
  subst x0
  obtain ⟨f_t, rfl⟩ := mkT_form [(0, _), (1, _), (5, _)] ⟨t0, t1, t5, trivial⟩
  have e1 : ltIK 0 ((0 : Nat) : Int) = false := ltIK_ff (by omega)
  have e2 : ltIK (Int.ofNat (lenL out)) 1 = false := by
   rw [lenL_eq]
   have : 0 < out.length := List.length_pos_iff.2 ho
   exact ltIK_ff (by show (1 : Int) ≤ (out.length : Int); omega)
  repeat ((first | refine Ok.F ?_); conv => arg 2; whnf)
  conv => arg 2; whnf
  rw [if_pos ⟨rfl, ho⟩] at h2
  exact h2 _ rfl
 | succ j ih =>
  intro x out k t hx hk h9 hj hl t0 t1 t5 h2
  obtain ⟨k, rfl⟩ : ∃ k', k = k' + 1 := ⟨k - 1, by omega⟩
  rw [loopK_succ]
  obtain ⟨f_t, rfl⟩ := mkT_form [(0, _), (1, _), (5, _)] ⟨t0, t1, t5, trivial⟩
  have g1 : leIK 0 ((x : Int).tmod 10) = true := by rw [tmod10]; exact le_0 _
  have g2 : leIK ((x : Int).tmod 10) (wrapK .i64 (((x : Int).tmod 10).add 1)) = true := by rw [tmod10, wrap1 (by omega)]; exact leIK_tt (by omega)
  have g3 : leIK (wrapK .i64 (((x : Int).tmod 10).add 1)) (Int.ofNat (lenL digs)) = true := by rw [tmod10, wrap1 (by omega), lenL_eq]; exact leIK_tt (by show ((x % 10 + 1 : Nat) : Int) ≤ 10; omega)
  have g4 : Nat.ble (Nat.add (lenL (takeL (Nat.sub (toN (wrapK .i64 (((x : Int).tmod 10).add 1))) (toN ((x : Int).tmod 10))) (dropL (toN ((x : Int).tmod 10)) digs))) (lenL out)) 9223372036854775807 = true := by
   rw [dig_cut, lenL_eq, lenL_eq]
   exact Nat.ble_eq_true_of_le (by show 1 + out.length ≤ _; omega)
  have ed : IntKind.i64.wrap ((x : Int).tdiv 10) = ((x / 10 : Nat) : Int) := by rw [tdiv10]; exact wrapI (by omega) (by omega)
  have hpow : x / 10 < 10 ^ j := by rw [Nat.pow_succ] at hx; omega
  have next : 0 < x ∨ out = [] → ∀ t' : Tr 3 V, t'.get 0 = some (.int .i64 (IntKind.i64.wrap ((x : Int).tdiv 10))) → t'.get 1 = some (vi 1) → t'.get 5 = some (.str ⟨⟨List.append (takeL (Nat.sub (toN (wrapK .i64 (((x : Int).tmod 10).add 1))) (toN ((x : Int).tmod 10))) (dropL (toN ((x : Int).tmod 10)) digs)) out⟩⟩) →
    Ok Q (loopK (comp E bd188).run fu call kN kE kR k t' m n fi) := by
   intro hs t' q0 q1 q5
   rw [dig_cut] at q5
   rw [ed] at q0
   refine ih (x / 10) (UInt8.ofNat (48 + x % 10) :: out) k t' hpow (by omega) (by omega) (.inr (by simp)) (by simp; omega) q0 q1 q5 ?_
   intro t'' h5
   exact h2 t'' (by rw [h5, dec_step hs])
  by_cases hs : 0 < x
  ·have e1 : ltIK 0 (x : Int) = true := ltIK_tt (by omega)
   conv => arg 2; whnf
   repeat ((first | refine Ok.T ?_ | refine Ok.tt g2 ?_ | refine Ok.tt g3 ?_ | refine Ok.tt g4 ?_); conv => arg 2; whnf)
   exact next (.inl hs) _ rfl rfl rfl
  ·have x0 : x = 0 := by omega
   have e1 : ltIK 0 (x : Int) = false := ltIK_ff (by omega)
   by_cases ho : out = []
   ·have e2 : ltIK (Int.ofNat (lenL out)) 1 = true := by rw [lenL_eq, ho]; exact ltIK_tt (by show (0 : Int) < 1; omega)
    conv => arg 2; whnf
    repeat ((first | refine Ok.T ?_ | refine Ok.F ?_ | refine Ok.tt g2 ?_ | refine Ok.tt g3 ?_ | refine Ok.tt g4 ?_); conv => arg 2; whnf)
    exact next (.inr ho) _ rfl rfl rfl
   ·have e2 : ltIK (Int.ofNat (lenL out)) 1 = false := by
     rw [lenL_eq]
     have : 0 < out.length := List.length_pos_iff.2 ho
     exact ltIK_ff (by show (1 : Int) ≤ (out.length : Int); omega)
    rw [if_pos ⟨x0, ho⟩] at h2
    conv => arg 2; whnf
    repeat ((first | refine Ok.F ?_); conv => arg 2; whnf)
    exact h2 _ rfl
theorem g188 (h : Has E 198 fn188) {x : Nat} (hx : x < 1000000000) : Gives E 198 [vi x, vi 1] (vs' (Lib.decDigits x)) := by
 refine h.gives2 50 (show 2 ≤ 25 by omega) ?_
 conv => arg 2; whnf
 refine dec_loop (E := E) 9 x [] _ _ (by omega) (by omega) hx (.inl (by omega)) (by simp) rfl rfl rfl ?_
 intro t' t'5
 rw [if_neg (by simp), List.append_nil] at t'5
 obtain ⟨f_tp, rfl⟩ := mkT_form [(5, _)] ⟨t'5, trivial⟩
 conv => arg 2; whnf
 exact Ok.eqS rfl
end
end Go.Fm
namespace Go.Fm
theorem Ok.call {E : Env'} {Q : V → Mem → Nat → Prop} {f : FuncId} {fn : RFn} (h : Has E f fn) {k : V × Mem × Nat → A} {fu : Nat} {vs : List V} {m : Mem} {n : Nat} (hl : vs.length ≤ fn.nt)
  (hr : Ok (fun v m n => Ok Q (k (v, m, n))) (argsC vs 0 z3 fun t => (comp E fn.body).run fu (callK E fu) t m n [] (endF E fu (callK E fu) fn.res) noE (endF E fu (callK E fu) fn.res))) :
  Ok Q (Option.rec (motive := fun _ => A) none k (callK E (fu + 1) (.f f) vs m n)) := by
 rw [callK_fn h.h1 h.h2 h.h3, fn_run hl]
 obtain ⟨v, m', n', h1, h2⟩ := hr
 rw [h1]
 exact h2
theorem Ok.ret {Q : V → Mem → Nat → Prop} {k : V × Mem × Nat → A} {v : V} {m : Mem} {n : Nat} (h : Ok Q (k (v, m, n))) : Ok (fun v m n => Ok Q (k (v, m, n))) (some (v, m, n)) := Ok.done h
theorem Ok.loop {Q : V → Mem → Nat → Prop} {f : CCC} {fu : Nat} {call : CE} {kN : KKN} {kE : Nat → KKN} {kR : KKN} {K : Nat} {t : Tr 3 V} {m : Mem} {n : Nat} {fi : List FI} (k : Nat) (hk : K = k + 1) (h : Ok Q (f fu call t m n fi (loopK f fu call kN kE kR k) kE kR)) : Ok Q (loopK f fu call kN kE kR K t m n fi) := by
 subst hk; exact h
def tDec : List V → Option V
 | [.int .i64 x, .int .i64 y] => if 0 ≤ x ∧ x < 1000000000 ∧ y = 1 then some (vs' (Lib.decDigits x.toNat)) else none
 | _ => none
theorem tDec_at {x : Nat} (h : x < 1000000000) : tDec [vi x, vi 1] = some (vs' (Lib.decDigits x)) := by
 show (if 0 ≤ (x : Int) ∧ (x : Int) < 1000000000 ∧ (1 : Int) = 1 then some (vs' (Lib.decDigits (x : Int).toNat)) else none) = _
 rw [if_pos ⟨by omega, by omega, rfl⟩]; rfl
section
variable {E : Env'} {Q : V → Mem → Nat → Prop}
attribute [local irreducible] Ok callK loopK lenL nthL takeL dropL eqBs
theorem g44 (h : Has E 63 fn44) (h102 : Has E 120 fn102) (h189 : Has E 199 fn189) (h279 : Has E 292 fn279) (h101 : Has E 119 fn101) (h188 : E.nat.get 198 = some tDec) {x : Nat} (hx : x < 1000000000) : Gives E 63 [vi x] (vs' (Lib.decDigits x)) := by
 obtain ⟨F, hF⟩ : ∃ F, F = 50 := ⟨_, rfl⟩
 refine h.gives2 (F + 10) (show 1 ≤ 6 by omega) ?_
 conv => arg 2; whnf
 refine Ok.call h102 (show 1 ≤ 25 by omega) ?_
 conv => arg 2; whnf
 by_cases h0 : x = 0
 ·subst h0
  refine Ok.loop (F + 8) rfl ?_
  conv => arg 2; whnf
  refine Ok.call h189 (show 2 ≤ 15 by omega) ?_
  conv => arg 2; whnf
  refine Ok.call h279 (show 1 ≤ 21 by omega) ?_
  conv => arg 2; whnf
  repeat ((first | refine Ok.loop (F + 6) rfl ?_ | refine Ok.ret ?_); conv => arg 2; whnf)
  refine Ok.call h101 (show 1 ≤ 39 by omega) ?_
  conv => arg 2; whnf
  refine Ok.ret ?_
  conv => arg 2; whnf
  exact Ok.eqS (by rw [Lib.decDigits]; rfl)
 ·have e0 : eqIK (x : Int) 0 = false := eqIK_ff (by omega)
  have hw : (x : Int).tmod 1000000000 = (x : Int) := by rw [Int.tmod_eq_emod_of_nonneg (by omega)]; omega
  have hq : (x : Int).tdiv 1000000000 = 0 := by rw [Int.tdiv_eq_ediv_of_nonneg (by omega)]; omega
  have e1 : ltIK ((x : Int).tmod 1000000000) 0 = false := by rw [hw]; exact ltIK_ff (by omega)
  have en : (nB (eqIK (x : Int) 0)) = true := by rw [e0]
  repeat ((first | refine Ok.loop (F + 8) rfl ?_ | refine Ok.tt (by exact en) ?_); conv => arg 2; whnf)
  have et : eqIK ((x : Int).tmod 1000000000) 0 = false := by rw [hw]; exact e0
  have hv : tDec [.int .i64 ((x : Int).tmod 1000000000), vi 1] = some (vs' (Lib.decDigits x)) := by rw [hw]; exact tDec_at hx
  have ez : (nB (eqIK (IntKind.i64.wrap ((x : Int).tdiv 1000000000)) 0)) = false := by rw [hq]; rfl
  repeat ((first | refine Ok.loop (F + 7) rfl ?_ | refine Ok.ff (by exact ez) ?_); conv => arg 2; whnf)
  refine Ok.call h189 (show 2 ≤ 15 by omega) ?_
  conv => arg 2; whnf
  refine Ok.call h279 (show 1 ≤ 21 by omega) ?_
  conv => arg 2; whnf
  repeat ((first | refine Ok.loop (F + 6) rfl ?_ | refine Ok.ff (by exact et) ?_ | refine Ok.ret ?_); conv => arg 2; whnf)
  refine Ok.call h101 (show 1 ≤ 39 by omega) ?_
  conv => arg 2; whnf
  repeat ((first | refine Ok.opt (callK_nat h188 _ hv _ _) ?_ | refine Ok.loop (F + 8) rfl ?_ | refine Ok.ret ?_); conv => arg 2; whnf)
  exact Ok.eqS rfl
theorem sum_snoc (a : Bs) (c : UInt8) : sumS (a ++ [c]) = (251 * sumS a + c.toNat) % 1000003 := by simp [sumS]
theorem sum_lt (a : Bs) : sumS a < 1000003 := by
 rcases List.eq_nil_or_concat a with rfl | ⟨b, c, rfl⟩
 ·decide
 ·rw [List.concat_eq_append, sum_snoc]; omega
end
section
variable {E : Env'} {Q : V → Mem → Nat → Prop}
attribute [local irreducible] Ok callK loopK getM putM lenL nthL takeL dropL eqBs wrapK
theorem sum_step {a : Nat} {c : UInt8} (ha : a < 1000003) : (wrapK .i64 ((wrapK .i64 ((251 : Int).mul (a : Int))).add (wrapK .i64 (Int.ofNat c.toNat)))).tmod 1000003 = (((251 * a + c.toNat) % 1000003 : Nat) : Int) := by
 have hc : c.toNat < 256 := c.toNat_lt
 have e1 : (251 : Int).mul (a : Int) = ((251 * a : Nat) : Int) := by show (251 : Int) * (a : Int) = _; omega
 rw [e1, wrapS (n := ((251 * a : Nat) : Int)) (by omega) (by omega), wrapS (n := Int.ofNat c.toNat) (by show _ ≤ (c.toNat : Int); omega) (by show (c.toNat : Int) ≤ _; omega)]
 have e2 : ((251 * a : Nat) : Int).add (Int.ofNat c.toNat) = ((251 * a + c.toNat : Nat) : Int) := rfl
 rw [e2, wrapS (by omega) (by omega), Int.tmod_eq_emod_of_nonneg (by omega)]; omega
theorem sum_loop {fu : Nat} {call : CE} {kN kR : KKN} {kE : Nat → KKN} {m : Mem} {n : Nat} {fi : List FI} : ∀ (r a : Bs) (k : Nat) (t : Tr 3 V), r.length < k → (a ++ r).length ≤ 100000 →
  t.get 0 = some (vs' (a ++ r)) → t.get 3 = some (vi (sumS a)) → t.get 4 = some (vi a.length) →
  (∀ t', t'.get 3 = some (vi (sumS (a ++ r))) → Ok Q (kE 0 t' m n fi)) →
  Ok Q (loopK (comp E bd59).run fu call kN kE kR k t m n fi) := by
 intro r
 induction r with
 | nil =>
  intro a k t hk hl t0 t3 t4 h2
  obtain ⟨k, rfl⟩ : ∃ k', k = k' + 1 := ⟨k - 1, by omega⟩
  rw [loopK_succ]
  obtain ⟨f_t, rfl⟩ := mkT_form [(0, _), (3, _), (4, _)] ⟨t0, t3, t4, trivial⟩
  conv => arg 2; whnf
  refine Ok.ff (lt_f (by simp)) ?_
  conv => arg 2; whnf
  rw [List.append_nil] at h2
  exact h2 _ rfl
 | cons c r ih =>
  intro a k t hk hl t0 t3 t4 h2
  obtain ⟨k, rfl⟩ : ∃ k', k = k' + 1 := ⟨k - 1, by omega⟩
  rw [loopK_succ]
  simp only [List.length_cons] at hk
  simp only [List.length_append, List.length_cons] at hl
  obtain ⟨f_t, rfl⟩ := mkT_form [(0, _), (3, _), (4, _)] ⟨t0, t3, t4, trivial⟩
  conv => arg 2; whnf
  repeat ((first | refine Ok.tt (lt_t (by simp)) ?_ | refine Ok.opt nth_m ?_); conv => arg 2; whnf)
  refine ih (a ++ [c]) k _ (by omega) (by simp; omega) (res_str (by simp)) (res_int ((sum_step (sum_lt a)).trans (by rw [sum_snoc]))) (res_int (wrap1' (a := a) (c := c) (show a.length ≤ 1000000000 by omega))) ?_
  intro t' h3
  exact h2 t' (by rw [h3]; simp)
def tFromInt : List V → Option V
 | [.int .i64 x] => if 0 ≤ x ∧ x < 1000000000 then some (vs' (Lib.decDigits x.toNat)) else none
 | _ => none
theorem tFromInt_at {x : Nat} (h : x < 1000000000) : tFromInt [vi x] = some (vs' (Lib.decDigits x)) := by
 show (if 0 ≤ (x : Int) ∧ (x : Int) < 1000000000 then some (vs' (Lib.decDigits (x : Int).toNat)) else none) = _
 rw [if_pos ⟨by omega, by omega⟩]; rfl
theorem g59 (h : Has E 38 fn59) (h44 : E.nat.get 63 = some tFromInt) {l : Bs} (hl : l.length ≤ 100000) : Gives E 38 [vs' l] (vs' (Lib.decDigits (sumS l))) := by
 refine h.gives (l.length + 50) ?_
 conv => arg 2; whnf
 refine sum_loop (E := E) l [] _ _ (by omega) (by simpa using hl) rfl rfl rfl ?_
 intro t' t'3
 rw [List.nil_append] at t'3
 obtain ⟨f_tp, rfl⟩ := mkT_form [(3, _)] ⟨t'3, trivial⟩
 conv => arg 2; whnf
 refine Ok.opt (callK_nat h44 _ (tFromInt_at (show sumS l < 1000000000 by have := sum_lt l; omega)) _ _) ?_
 conv => arg 2; whnf
 exact Ok.eqS rfl
end
end Go.Fm
namespace Go.Fm
theorem eqB_t {l m : Bs} (h : l = m) : eqBs l m = true := by rw [eqBs_eq]; exact beq_iff_eq.2 h
theorem eqB_f {l m : Bs} (h : l ≠ m) : eqBs l m = false := by rw [eqBs_eq]; exact beq_eq_false_iff_ne.2 h
def sizeV (k : Bs) : V := match formS k with
 | some (n, t) => .tup [vi n, .bool t, .bool true]
 | none => .tup [vi 0, .bool false, .bool false]
theorem Ok.idx {Q : V → Mem → Nat → Prop} {f g : Nat → A} {i : Int} {n : Nat} (h : i = (n : Int)) (hk : Ok Q (f n)) : Ok Q (Int.rec (motive := fun _ => A) f g i) := by subst h; exact hk
theorem wrap2' {a : Bs} {c d : UInt8} (h : a.length ≤ 100000000) : wrapK .i64 ((wrapK .i64 ((a.length : Int).add 1)).add 1) = (((a ++ [c, d]).length : Nat) : Int) := by
 rw [wrap1 (by omega), wrap1 (i := a.length + 1) (by omega)]; simp; omega
section
variable {E : Env'} {Q : V → Mem → Nat → Prop}
attribute [local irreducible] Ok callK loopK getM putM lenL nthL takeL dropL eqBs wrapK
theorem g131 (h : Has E 35 fn131) (k : Bs) : Gives E 35 [vs' k] (sizeV k) := by
 refine h.gives2 50 (show 1 ≤ 17 by omega) ?_
 unfold sizeV formS
 conv => arg 2; whnf
 by_cases h1 : k = kDraw
 ·have e1 := eqB_t h1
  rw [if_pos h1]
  repeat ((first | refine Ok.T ?_); conv => arg 2; whnf)
  exact Ok.eq rfl
 have e1 := eqB_f h1
 rw [if_neg h1]
 by_cases h2 : k = kBranch
 ·have e2 := eqB_t h2
  rw [if_pos h2]
  repeat ((first | refine Ok.T ?_ | refine Ok.F ?_); conv => arg 2; whnf)
  exact Ok.eq rfl
 have e2 := eqB_f h2
 rw [if_neg h2]
 by_cases h3 : k = kMerge
 ·have e3 := eqB_t h3
  rw [if_pos h3]
  repeat ((first | refine Ok.T ?_ | refine Ok.F ?_); conv => arg 2; whnf)
  exact Ok.eq rfl
 have e3 := eqB_f h3
 rw [if_neg h3]
 by_cases h4 : k = kNote
 ·have e4 := eqB_t h4
  rw [if_pos h4]
  repeat ((first | refine Ok.T ?_ | refine Ok.F ?_); conv => arg 2; whnf)
  exact Ok.eq rfl
 have e4 := eqB_f h4
 rw [if_neg h4]
 repeat ((first | refine Ok.F ?_); conv => arg 2; whnf)
 by_cases h5 : k = kUndo
 ·rw [if_pos h5]
  refine Ok.eq (show V.tup [vi 0, .bool false, .bool (eqBs k kUndo)] = _ from ?_)
  rw [eqB_t h5]; rfl
 ·rw [if_neg h5]
  refine Ok.eq (show V.tup [vi 0, .bool false, .bool (eqBs k kUndo)] = _ from ?_)
  rw [eqB_f h5]
theorem isName_cons (c : UInt8) (r : Bs) : isNameS (c :: r) = (decide ((c :: r).length ≤ 24) && letB c && r.all fun d => letB d || digB d || d == 95) := rfl
def nameB (a : Bs) (c : UInt8) : Bool := letB c || (!a.isEmpty && (digB c || c == 95))
def namesB : Bs → Bs → Bool
 | _, [] => true
 | a, c :: r => nameB a c && namesB (a ++ [c]) r
theorem namesB_ne : ∀ (r a : Bs), a ≠ [] → namesB a r = r.all fun d => letB d || digB d || d == 95
 | [], _, _ => rfl
 | c :: r, a, h => by
  have : a.isEmpty = false := by cases a; exact absurd rfl h; rfl
  simp only [namesB, nameB, this, Bool.not_false, Bool.true_and, List.all_cons, namesB_ne r (a ++ [c]) (by simp), Bool.or_assoc]
theorem namesB_0 {l : Bs} (h : l ≠ []) (h24 : l.length ≤ 24) : namesB [] l = isNameS l := by
 cases l with
 | nil => exact absurd rfl h
 | cons c r =>
  rw [isName_cons, decide_eq_true h24]
  simp only [namesB, nameB, List.isEmpty_nil, Bool.not_true, Bool.false_and, Bool.or_false, Bool.true_and]
  rw [namesB_ne _ _ (by simp)]
theorem name_loop {fu : Nat} {call : CE} {kN kR : KKN} {kE : Nat → KKN} {m : Mem} {n : Nat} {fi : List FI} : ∀ (r a : Bs) (k : Nat) (t : Tr 3 V), r.length < k → (a ++ r).length ≤ 100000 →
  t.get 0 = some (vs' (a ++ r)) → t.get 3 = some (vi a.length) →
  (∀ t', namesB a r = false → t'.get 2 = some (.bool false) → Ok Q (kR t' m n fi)) →
  (∀ t', namesB a r = true → Ok Q (kE 0 t' m n fi)) →
  Ok Q (loopK (comp E bd133).run fu call kN kE kR k t m n fi) := by
 intro r
 induction r with
 | nil =>
  intro a k t hk hl t0 t3 h1 h2
  obtain ⟨k, rfl⟩ : ∃ k', k = k' + 1 := ⟨k - 1, by omega⟩
  rw [loopK_succ]
  obtain ⟨f_t, rfl⟩ := mkT_form [(0, _), (3, _)] ⟨t0, t3, trivial⟩
  conv => arg 2; whnf
  refine Ok.ff (lt_f (by simp)) ?_
  conv => arg 2; whnf
  exact h2 _ rfl
 | cons c r ih =>
  intro a k t hk hl t0 t3 h1 h2
  obtain ⟨k, rfl⟩ : ∃ k', k = k' + 1 := ⟨k - 1, by omega⟩
  rw [loopK_succ]
  simp only [List.length_cons] at hk
  simp only [List.length_append, List.length_cons] at hl
  obtain ⟨f_t, rfl⟩ := mkT_form [(0, _), (3, _)] ⟨t0, t3, trivial⟩
  have bad : nameB a c = false → ∀ t' : Tr 3 V, t'.get 2 = some (.bool false) → Ok Q (kR t' m n fi) := fun q t' e => h1 t' (by simp [namesB, q]) e
  have good : nameB a c = true → ∀ t' : Tr 3 V, t'.get 0 = some (vs' (a ++ c :: r)) → t'.get 3 = some (.int .i64 (wrapK .i64 ((a.length : Int).add 1))) → Ok Q (loopK (comp E bd133).run fu call kN kE kR k t' m n fi) := by
   intro q t' e0 e3
   refine ih (a ++ [c]) k t' (by omega) (by simp; omega) (by rw [e0]; simp) (by rw [e3]; exact res_int (wrap1' (a := a) (c := c) (show a.length ≤ 1000000000 by omega))) ?_ ?_
   ·intro t'' q2 e; exact h1 t'' (by simp [namesB, q2]) e
   ·intro t'' q2; exact h2 t'' (by simp [namesB, q, q2])
  have C0 : ∀ k : Nat, (k : Int) ≤ (Int.ofNat c.toNat) ↔ k ≤ c.toNat := fun k => by show (k : Int) ≤ (c.toNat : Int) ↔ _; omega
  have T1 : ∀ k : Nat, k ≤ c.toNat → leIK (k : Int) (Int.ofNat c.toNat) = true := fun k h => leIK_tt (by show (k : Int) ≤ (c.toNat : Int); omega)
  have F1 : ∀ k : Nat, c.toNat < k → leIK (k : Int) (Int.ofNat c.toNat) = false := fun k h => leIK_ff (by show (c.toNat : Int) < (k : Int); omega)
  have T2 : ∀ k : Nat, c.toNat ≤ k → leIK (Int.ofNat c.toNat) (k : Int) = true := fun k h => leIK_tt (by show (c.toNat : Int) ≤ (k : Int); omega)
  have F2 : ∀ k : Nat, k < c.toNat → leIK (Int.ofNat c.toNat) (k : Int) = false := fun k h => leIK_ff (by show (k : Int) < (c.toNat : Int); omega)
  conv => arg 2; whnf
  repeat ((first | refine Ok.tt (lt_t (by simp)) ?_ | refine Ok.opt nth_m ?_); conv => arg 2; whnf)
  have nb : nameB a c = (((decide (97 ≤ c.toNat) && decide (c.toNat ≤ 122)) || (decide (65 ≤ c.toNat) && decide (c.toNat ≤ 90))) || (!a.isEmpty && ((decide (48 ≤ c.toNat) && decide (c.toNat ≤ 57)) || decide (c.toNat = 95)))) := by
   unfold nameB letB digB
   have : (c == 95) = decide (c.toNat = 95) := by
    rw [Bool.eq_iff_iff, beq_iff_eq, decide_eq_true_eq]
    exact ⟨fun h => by rw [h]; rfl, fun h => UInt8.toNat_inj.1 h⟩
   rw [this]
  by_cases q1 : 97 ≤ c.toNat
  ·by_cases q2 : c.toNat ≤ 122
   ·skip
    have e1 : leIK 97 (Int.ofNat c.toNat) = true := T1 97 (by omega)
    have e1n : (nB (leIK 97 (Int.ofNat c.toNat))) = false := by rw [e1]
    have e2 : leIK (Int.ofNat c.toNat) 122 = true := T2 122 (by omega)
    have e2n : (nB (leIK (Int.ofNat c.toNat) 122)) = false := by rw [e2]
    repeat ((first | refine Ok.T ?_ | refine Ok.F ?_); conv => arg 2; whnf)
    exact good (by rw [nb]; simp [*] <;> omega) _ rfl rfl
   ·skip
    by_cases qa : a = []
    ·have e0 : eqIK (a.length : Int) 0 = true := eqIK_tt (by simp [qa])
     have e0n : (nB (eqIK (a.length : Int) 0)) = false := by rw [e0]
     have e1 : leIK 97 (Int.ofNat c.toNat) = true := T1 97 (by omega)
     have e1n : (nB (leIK 97 (Int.ofNat c.toNat))) = false := by rw [e1]
     have e2 : leIK (Int.ofNat c.toNat) 122 = false := F2 122 (by omega)
     have e2n : (nB (leIK (Int.ofNat c.toNat) 122)) = true := by rw [e2]
     have e3 : leIK 65 (Int.ofNat c.toNat) = true := T1 65 (by omega)
     have e3n : (nB (leIK 65 (Int.ofNat c.toNat))) = false := by rw [e3]
     have e4 : leIK (Int.ofNat c.toNat) 90 = false := F2 90 (by omega)
     have e4n : (nB (leIK (Int.ofNat c.toNat) 90)) = true := by rw [e4]
     repeat ((first | refine Ok.T ?_ | refine Ok.F ?_); conv => arg 2; whnf)
     exact bad (by rw [nb]; simp [*] <;> omega) _ rfl
    ·have e0 : eqIK (a.length : Int) 0 = false := eqIK_ff (by have := List.length_pos_iff.2 qa; omega)
     have e0n : (nB (eqIK (a.length : Int) 0)) = true := by rw [e0]
     by_cases q7 : c.toNat = 95
     ·have e7 : eqIK (Int.ofNat c.toNat) 95 = true := eqIK_tt (by show (c.toNat : Int) = 95; omega)
      have e7n : (nB (eqIK (Int.ofNat c.toNat) 95)) = false := by rw [e7]
      have e1 : leIK 97 (Int.ofNat c.toNat) = true := T1 97 (by omega)
      have e1n : (nB (leIK 97 (Int.ofNat c.toNat))) = false := by rw [e1]
      have e2 : leIK (Int.ofNat c.toNat) 122 = false := F2 122 (by omega)
      have e2n : (nB (leIK (Int.ofNat c.toNat) 122)) = true := by rw [e2]
      have e3 : leIK 65 (Int.ofNat c.toNat) = true := T1 65 (by omega)
      have e3n : (nB (leIK 65 (Int.ofNat c.toNat))) = false := by rw [e3]
      have e4 : leIK (Int.ofNat c.toNat) 90 = false := F2 90 (by omega)
      have e4n : (nB (leIK (Int.ofNat c.toNat) 90)) = true := by rw [e4]
      have e5 : leIK 48 (Int.ofNat c.toNat) = true := T1 48 (by omega)
      have e5n : (nB (leIK 48 (Int.ofNat c.toNat))) = false := by rw [e5]
      have e6 : leIK (Int.ofNat c.toNat) 57 = false := F2 57 (by omega)
      have e6n : (nB (leIK (Int.ofNat c.toNat) 57)) = true := by rw [e6]
      repeat ((first | refine Ok.T ?_ | refine Ok.F ?_); conv => arg 2; whnf)
      exact good (by rw [nb]; simp [*] <;> omega) _ rfl rfl
     ·have e7 : eqIK (Int.ofNat c.toNat) 95 = false := eqIK_ff (by show (c.toNat : Int) ≠ 95; omega)
      have e7n : (nB (eqIK (Int.ofNat c.toNat) 95)) = true := by rw [e7]
      have e1 : leIK 97 (Int.ofNat c.toNat) = true := T1 97 (by omega)
      have e1n : (nB (leIK 97 (Int.ofNat c.toNat))) = false := by rw [e1]
      have e2 : leIK (Int.ofNat c.toNat) 122 = false := F2 122 (by omega)
      have e2n : (nB (leIK (Int.ofNat c.toNat) 122)) = true := by rw [e2]
      have e3 : leIK 65 (Int.ofNat c.toNat) = true := T1 65 (by omega)
      have e3n : (nB (leIK 65 (Int.ofNat c.toNat))) = false := by rw [e3]
      have e4 : leIK (Int.ofNat c.toNat) 90 = false := F2 90 (by omega)
      have e4n : (nB (leIK (Int.ofNat c.toNat) 90)) = true := by rw [e4]
      have e5 : leIK 48 (Int.ofNat c.toNat) = true := T1 48 (by omega)
      have e5n : (nB (leIK 48 (Int.ofNat c.toNat))) = false := by rw [e5]
      have e6 : leIK (Int.ofNat c.toNat) 57 = false := F2 57 (by omega)
      have e6n : (nB (leIK (Int.ofNat c.toNat) 57)) = true := by rw [e6]
      repeat ((first | refine Ok.T ?_ | refine Ok.F ?_); conv => arg 2; whnf)
      exact bad (by rw [nb]; simp [*] <;> omega) _ rfl
  ·by_cases q3 : 65 ≤ c.toNat
   ·by_cases q4 : c.toNat ≤ 90
    ·skip
     have e1 : leIK 97 (Int.ofNat c.toNat) = false := F1 97 (by omega)
     have e1n : (nB (leIK 97 (Int.ofNat c.toNat))) = true := by rw [e1]
     have e3 : leIK 65 (Int.ofNat c.toNat) = true := T1 65 (by omega)
     have e3n : (nB (leIK 65 (Int.ofNat c.toNat))) = false := by rw [e3]
     have e4 : leIK (Int.ofNat c.toNat) 90 = true := T2 90 (by omega)
     have e4n : (nB (leIK (Int.ofNat c.toNat) 90)) = false := by rw [e4]
     repeat ((first | refine Ok.T ?_ | refine Ok.F ?_); conv => arg 2; whnf)
     exact good (by rw [nb]; simp [*] <;> omega) _ rfl rfl
    ·skip
     by_cases qa : a = []
     ·have e0 : eqIK (a.length : Int) 0 = true := eqIK_tt (by simp [qa])
      have e0n : (nB (eqIK (a.length : Int) 0)) = false := by rw [e0]
      have e1 : leIK 97 (Int.ofNat c.toNat) = false := F1 97 (by omega)
      have e1n : (nB (leIK 97 (Int.ofNat c.toNat))) = true := by rw [e1]
      have e3 : leIK 65 (Int.ofNat c.toNat) = true := T1 65 (by omega)
      have e3n : (nB (leIK 65 (Int.ofNat c.toNat))) = false := by rw [e3]
      have e4 : leIK (Int.ofNat c.toNat) 90 = false := F2 90 (by omega)
      have e4n : (nB (leIK (Int.ofNat c.toNat) 90)) = true := by rw [e4]
      repeat ((first | refine Ok.T ?_ | refine Ok.F ?_); conv => arg 2; whnf)
      exact bad (by rw [nb]; simp [*] <;> omega) _ rfl
     ·have e0 : eqIK (a.length : Int) 0 = false := eqIK_ff (by have := List.length_pos_iff.2 qa; omega)
      have e0n : (nB (eqIK (a.length : Int) 0)) = true := by rw [e0]
      by_cases q7 : c.toNat = 95
      ·have e7 : eqIK (Int.ofNat c.toNat) 95 = true := eqIK_tt (by show (c.toNat : Int) = 95; omega)
       have e7n : (nB (eqIK (Int.ofNat c.toNat) 95)) = false := by rw [e7]
       have e1 : leIK 97 (Int.ofNat c.toNat) = false := F1 97 (by omega)
       have e1n : (nB (leIK 97 (Int.ofNat c.toNat))) = true := by rw [e1]
       have e3 : leIK 65 (Int.ofNat c.toNat) = true := T1 65 (by omega)
       have e3n : (nB (leIK 65 (Int.ofNat c.toNat))) = false := by rw [e3]
       have e4 : leIK (Int.ofNat c.toNat) 90 = false := F2 90 (by omega)
       have e4n : (nB (leIK (Int.ofNat c.toNat) 90)) = true := by rw [e4]
       have e5 : leIK 48 (Int.ofNat c.toNat) = true := T1 48 (by omega)
       have e5n : (nB (leIK 48 (Int.ofNat c.toNat))) = false := by rw [e5]
       have e6 : leIK (Int.ofNat c.toNat) 57 = false := F2 57 (by omega)
       have e6n : (nB (leIK (Int.ofNat c.toNat) 57)) = true := by rw [e6]
       repeat ((first | refine Ok.T ?_ | refine Ok.F ?_); conv => arg 2; whnf)
       exact good (by rw [nb]; simp [*] <;> omega) _ rfl rfl
      ·have e7 : eqIK (Int.ofNat c.toNat) 95 = false := eqIK_ff (by show (c.toNat : Int) ≠ 95; omega)
       have e7n : (nB (eqIK (Int.ofNat c.toNat) 95)) = true := by rw [e7]
       have e1 : leIK 97 (Int.ofNat c.toNat) = false := F1 97 (by omega)
       have e1n : (nB (leIK 97 (Int.ofNat c.toNat))) = true := by rw [e1]
       have e3 : leIK 65 (Int.ofNat c.toNat) = true := T1 65 (by omega)
       have e3n : (nB (leIK 65 (Int.ofNat c.toNat))) = false := by rw [e3]
       have e4 : leIK (Int.ofNat c.toNat) 90 = false := F2 90 (by omega)
       have e4n : (nB (leIK (Int.ofNat c.toNat) 90)) = true := by rw [e4]
       have e5 : leIK 48 (Int.ofNat c.toNat) = true := T1 48 (by omega)
       have e5n : (nB (leIK 48 (Int.ofNat c.toNat))) = false := by rw [e5]
       have e6 : leIK (Int.ofNat c.toNat) 57 = false := F2 57 (by omega)
       have e6n : (nB (leIK (Int.ofNat c.toNat) 57)) = true := by rw [e6]
       repeat ((first | refine Ok.T ?_ | refine Ok.F ?_); conv => arg 2; whnf)
       exact bad (by rw [nb]; simp [*] <;> omega) _ rfl
   ·skip
    by_cases qa : a = []
    ·have e0 : eqIK (a.length : Int) 0 = true := eqIK_tt (by simp [qa])
     have e0n : (nB (eqIK (a.length : Int) 0)) = false := by rw [e0]
     have e1 : leIK 97 (Int.ofNat c.toNat) = false := F1 97 (by omega)
     have e1n : (nB (leIK 97 (Int.ofNat c.toNat))) = true := by rw [e1]
     have e3 : leIK 65 (Int.ofNat c.toNat) = false := F1 65 (by omega)
     have e3n : (nB (leIK 65 (Int.ofNat c.toNat))) = true := by rw [e3]
     repeat ((first | refine Ok.T ?_ | refine Ok.F ?_); conv => arg 2; whnf)
     exact bad (by rw [nb]; simp [*] <;> omega) _ rfl
    ·have e0 : eqIK (a.length : Int) 0 = false := eqIK_ff (by have := List.length_pos_iff.2 qa; omega)
     have e0n : (nB (eqIK (a.length : Int) 0)) = true := by rw [e0]
     have e7 : eqIK (Int.ofNat c.toNat) 95 = false := eqIK_ff (by show (c.toNat : Int) ≠ 95; omega)
     have e7n : (nB (eqIK (Int.ofNat c.toNat) 95)) = true := by rw [e7]
     by_cases q5 : 48 ≤ c.toNat
     ·by_cases q6 : c.toNat ≤ 57
      ·skip
       have e1 : leIK 97 (Int.ofNat c.toNat) = false := F1 97 (by omega)
       have e1n : (nB (leIK 97 (Int.ofNat c.toNat))) = true := by rw [e1]
       have e3 : leIK 65 (Int.ofNat c.toNat) = false := F1 65 (by omega)
       have e3n : (nB (leIK 65 (Int.ofNat c.toNat))) = true := by rw [e3]
       have e5 : leIK 48 (Int.ofNat c.toNat) = true := T1 48 (by omega)
       have e5n : (nB (leIK 48 (Int.ofNat c.toNat))) = false := by rw [e5]
       have e6 : leIK (Int.ofNat c.toNat) 57 = true := T2 57 (by omega)
       have e6n : (nB (leIK (Int.ofNat c.toNat) 57)) = false := by rw [e6]
       repeat ((first | refine Ok.T ?_ | refine Ok.F ?_); conv => arg 2; whnf)
       exact good (by rw [nb]; simp [*] <;> omega) _ rfl rfl
      ·skip
       have e1 : leIK 97 (Int.ofNat c.toNat) = false := F1 97 (by omega)
       have e1n : (nB (leIK 97 (Int.ofNat c.toNat))) = true := by rw [e1]
       have e3 : leIK 65 (Int.ofNat c.toNat) = false := F1 65 (by omega)
       have e3n : (nB (leIK 65 (Int.ofNat c.toNat))) = true := by rw [e3]
       have e5 : leIK 48 (Int.ofNat c.toNat) = true := T1 48 (by omega)
       have e5n : (nB (leIK 48 (Int.ofNat c.toNat))) = false := by rw [e5]
       have e6 : leIK (Int.ofNat c.toNat) 57 = false := F2 57 (by omega)
       have e6n : (nB (leIK (Int.ofNat c.toNat) 57)) = true := by rw [e6]
       repeat ((first | refine Ok.T ?_ | refine Ok.F ?_); conv => arg 2; whnf)
       exact bad (by rw [nb]; simp [*] <;> omega) _ rfl
     ·skip
      have e1 : leIK 97 (Int.ofNat c.toNat) = false := F1 97 (by omega)
      have e1n : (nB (leIK 97 (Int.ofNat c.toNat))) = true := by rw [e1]
      have e3 : leIK 65 (Int.ofNat c.toNat) = false := F1 65 (by omega)
      have e3n : (nB (leIK 65 (Int.ofNat c.toNat))) = true := by rw [e3]
      have e5 : leIK 48 (Int.ofNat c.toNat) = false := F1 48 (by omega)
      have e5n : (nB (leIK 48 (Int.ofNat c.toNat))) = true := by rw [e5]
      repeat ((first | refine Ok.T ?_ | refine Ok.F ?_); conv => arg 2; whnf)
      exact bad (by rw [nb]; simp [*] <;> omega) _ rfl
theorem g133 (h : Has E 36 fn133) {l : Bs} (hl : l.length ≤ 100000) : Gives E 36 [vs' l] (.bool (isNameS l)) := by
 refine h.gives2 (l.length + 50) (show 1 ≤ 56 by omega) ?_
 by_cases h0 : l = []
 ·have e1 : ltIK (Int.ofNat (lenL l)) 1 = true := by rw [lenL_eq, h0]; exact ltIK_tt (by show (0 : Int) < 1; omega)
  conv => arg 2; whnf
  repeat ((first | refine Ok.T ?_); conv => arg 2; whnf)
  exact Ok.eqB (by rw [h0]; rfl)
 ·have hp := List.length_pos_iff.2 h0
  have e1 : ltIK (Int.ofNat (lenL l)) 1 = false := by rw [lenL_eq]; exact ltIK_ff (by show (1 : Int) ≤ (l.length : Int); omega)
  by_cases h24 : l.length ≤ 24
  ·have e2 : ltIK 24 (Int.ofNat (lenL l)) = false := by rw [lenL_eq]; exact ltIK_ff (by show (l.length : Int) ≤ 24; omega)
   conv => arg 2; whnf
   repeat ((first | refine Ok.F ?_); conv => arg 2; whnf)
   refine name_loop (E := E) l [] _ _ (by omega) (by simpa using hl) rfl rfl ?_ ?_
   ·intro t' hm t'2
    obtain ⟨f_tp, rfl⟩ := mkT_form [(2, _)] ⟨t'2, trivial⟩
    conv => arg 2; whnf
    exact Ok.eqB (by rw [← namesB_0 h0 h24, hm])
   ·intro t' hm
    conv => arg 2; whnf
    exact Ok.eqB (by rw [← namesB_0 h0 h24, hm])
  ·have e2 : ltIK 24 (Int.ofNat (lenL l)) = true := by rw [lenL_eq]; exact ltIK_tt (by show (24 : Int) < (l.length : Int); omega)
   conv => arg 2; whnf
   repeat ((first | refine Ok.T ?_ | refine Ok.F ?_); conv => arg 2; whnf)
   refine Ok.eqB ?_
   cases l with
   | nil => exact absurd rfl h0
   | cons c r => rw [isName_cons, decide_eq_false h24]; rfl
theorem plainS_1 (c : UInt8) (h1 : c ≠ 10) (h2 : c ≠ 92) (r : Bs) : plainS (c :: r) = (plainS r).map (c :: ·) := by
 cases r with
 | nil => simp [plainS, h1, h2]
 | cons d r => simp [plainS, h1, h2]
theorem plain_loop {fu : Nat} {call : CE} {kN kR : KKN} {kE : Nat → KKN} {m : Mem} {n : Nat} {fi : List FI} : ∀ (j : Nat) (r a out : Bs) (k : Nat) (t : Tr 3 V), r.length ≤ j → j < k → (a ++ r).length ≤ 100000 → out.length ≤ a.length →
  t.get 0 = some (vs' (a ++ r)) → t.get 5 = some (vi a.length) → t.get 4 = some (vs' out) →
  (∀ t', plainS r = none → t'.get 2 = some (vs' []) → t'.get 3 = some (.bool false) → Ok Q (kR t' m n fi)) →
  (∀ t' x, plainS r = some x → t'.get 4 = some (vs' (out ++ x)) → Ok Q (kE 0 t' m n fi)) →
  Ok Q (loopK (comp E bd132).run fu call kN kE kR k t m n fi) := by
 intro j
 induction j with
 | zero =>
  intro r a out k t hj hk hl ho t0 t5 t4 h1 h2
  obtain ⟨k, rfl⟩ : ∃ k', k = k' + 1 := ⟨k - 1, by omega⟩
  obtain rfl : r = [] := List.length_eq_zero_iff.1 (by omega)
  rw [loopK_succ]
  obtain ⟨f_t, rfl⟩ := mkT_form [(0, _), (5, _), (4, _)] ⟨t0, t5, t4, trivial⟩
  conv => arg 2; whnf
  refine Ok.ff (lt_f (by simp)) ?_
  conv => arg 2; whnf
  exact h2 _ [] rfl (res_str (by simp))
 | succ j ih =>
  intro r a out k t hj hk hl ho t0 t5 t4 h1 h2
  obtain ⟨k, rfl⟩ : ∃ k', k = k' + 1 := ⟨k - 1, by omega⟩
  rw [loopK_succ]
  cases r with
  | nil =>
   obtain ⟨f_t, rfl⟩ := mkT_form [(0, _), (5, _), (4, _)] ⟨t0, t5, t4, trivial⟩
   conv => arg 2; whnf
   refine Ok.ff (lt_f (by simp)) ?_
   conv => arg 2; whnf
   exact h2 _ [] rfl (res_str (by simp))
  | cons c r =>
   simp only [List.length_cons] at hj
   simp only [List.length_append, List.length_cons] at hl
   obtain ⟨f_t, rfl⟩ := mkT_form [(0, _), (5, _), (4, _)] ⟨t0, t5, t4, trivial⟩
   conv => arg 2; whnf
   repeat ((first | refine Ok.tt (lt_t (by simp)) ?_ | refine Ok.opt nth_m ?_); conv => arg 2; whnf)
   by_cases hc : c = 10
   ·have e1 := u8_t (c := c) (k := 10) (by rw [hc]; rfl)
    refine Ok.tt (by exact e1) ?_
    conv => arg 2; whnf
    refine h1 _ ?_ rfl rfl
    subst hc
    cases r <;> simp [plainS]
   ·have e1 := u8_f (c := c) (k := 10) (u8_ne hc)
    repeat ((first | refine Ok.ff (by exact e1) ?_ | refine Ok.opt nth_m ?_); conv => arg 2; whnf)
    by_cases hb : c = 92
    ·have e2 : (nB (eqIK (Int.ofNat c.toNat) 92)) = false := by rw [u8_t (c := c) (k := 92) (by rw [hb]; rfl)]
     refine Ok.ff (by exact e2) ?_
     conv => arg 2; whnf
     subst hb
     cases r with
     | nil =>
      have e3 : eqIK (wrapK .i64 ((a.length : Int).add 1)) (Int.ofNat (lenL (a ++ [92]))) = true := by
       rw [wrap1 (by omega), lenL_eq]; exact eqIK_tt (by simp)
      repeat ((first | refine Ok.T ?_); conv => arg 2; whnf)
      exact h1 _ rfl rfl rfl
     | cons d r =>
      simp only [List.length_cons] at hj hl
      have ew := wrap1 (i := a.length) (by omega)
      have e3 : eqIK (wrapK .i64 ((a.length : Int).add 1)) (Int.ofNat (lenL (a ++ 92 :: d :: r))) = false := by
       rw [ew, lenL_eq]; exact eqIK_ff (by simp; omega)
      have en : nthL (a ++ 92 :: d :: r) (a.length + 1) = some d := by rw [nthL_eq]; simp
      by_cases hd : d = 110
      ·have e4 := u8_t (c := d) (k := 110) (by rw [hd]; rfl)
       have e4n : (nB (eqIK (Int.ofNat d.toNat) 110)) = false := by rw [e4]
       have e6 : Nat.ble (Nat.add (lenL out) (lenL ([10] : Bs))) 9223372036854775807 = true := by rw [lenL_eq, lenL_eq]; exact Nat.ble_eq_true_of_le (by show out.length + 1 ≤ _; omega)
       repeat ((first | refine Ok.T ?_ | refine Ok.F ?_ | refine Ok.opt (by with_reducible first | exact en) ?_ | refine Ok.idx (by with_reducible first | exact ew) ?_); conv => arg 2; whnf)
       refine ih r (a ++ [92, d]) (out ++ [10]) k _ (by omega) (by omega) (by simp; omega) (by simp; omega) (res_str (by simp)) (res_int (wrap2' (by omega))) (res_str rfl) ?_ ?_
       ·intro t' q; exact h1 t' (by simp [plainS, hd, q])
       ·intro t' x q e; exact h2 t' (10 :: x) (by simp [plainS, hd, q]) (by rw [e]; simp)
      ·have e4 := u8_f (c := d) (k := 110) (u8_ne hd)
       have e4n : (nB (eqIK (Int.ofNat d.toNat) 110)) = true := by rw [e4]
       by_cases hd2 : d = 92
       ·have e5 := u8_t (c := d) (k := 92) (by rw [hd2]; rfl)
        have e5n : (nB (eqIK (Int.ofNat d.toNat) 92)) = false := by rw [e5]
        have e6 : Nat.ble (Nat.add (lenL out) (lenL ([92] : Bs))) 9223372036854775807 = true := by rw [lenL_eq, lenL_eq]; exact Nat.ble_eq_true_of_le (by show out.length + 1 ≤ _; omega)
        repeat ((first | refine Ok.T ?_ | refine Ok.F ?_ | refine Ok.opt (by with_reducible first | exact en) ?_ | refine Ok.idx (by with_reducible first | exact ew) ?_); conv => arg 2; whnf)
        refine ih r (a ++ [92, d]) (out ++ [92]) k _ (by omega) (by omega) (by simp; omega) (by simp; omega) (res_str (by simp)) (res_int (wrap2' (by omega))) (res_str rfl) ?_ ?_
        ·intro t' q; exact h1 t' (by simp [plainS, hd2, q])
        ·intro t' x q e; exact h2 t' (92 :: x) (by simp [plainS, hd2, q]) (by rw [e]; simp)
       ·have e5 := u8_f (c := d) (k := 92) (u8_ne hd2)
        have e5n : (nB (eqIK (Int.ofNat d.toNat) 92)) = true := by rw [e5]
        repeat ((first | refine Ok.T ?_ | refine Ok.F ?_ | refine Ok.opt (by with_reducible first | exact en) ?_ | refine Ok.idx (by with_reducible first | exact ew) ?_); conv => arg 2; whnf)
        exact h1 _ (by simp [plainS, hd, hd2]) rfl rfl
    ·have e2 : (nB (eqIK (Int.ofNat c.toNat) 92)) = true := by rw [u8_f (c := c) (k := 92) (u8_ne hb)]
     have ew := wrap1 (i := a.length) (by omega)
     have f1 : leIK (a.length : Int) (wrapK .i64 ((a.length : Int).add 1)) = true := by rw [ew]; exact leIK_tt (by omega)
     have f2 : leIK (wrapK .i64 ((a.length : Int).add 1)) (Int.ofNat (lenL (a ++ c :: r))) = true := wrap1_le (by omega) (by simp)
     have ec : takeL (Nat.sub (toN (wrapK .i64 ((a.length : Int).add 1))) (toN (a.length : Int))) (dropL (toN (a.length : Int)) (a ++ c :: r)) = [c] := by
      rw [ew, sl_mid]; simp
     have f3 : Nat.ble (Nat.add (lenL out) (lenL (takeL (Nat.sub (toN (wrapK .i64 ((a.length : Int).add 1))) (toN (a.length : Int))) (dropL (toN (a.length : Int)) (a ++ c :: r))))) 9223372036854775807 = true := by
      rw [ec, lenL_eq, lenL_eq]; exact Nat.ble_eq_true_of_le (by show out.length + 1 ≤ _; omega)
     repeat ((first | refine Ok.T ?_); conv => arg 2; whnf)
     refine ih r (a ++ [c]) (out ++ [c]) k _ (by omega) (by omega) (by simp; omega) (by simp; omega) (res_str (by simp)) (res_int (wrap1' (a := a) (c := c) (show a.length ≤ 1000000000 by omega))) (res_str (congrArg (List.append out) ec)) ?_ ?_
     ·intro t' q; exact h1 t' (by rw [plainS_1 c hc hb, q]; rfl)
     ·intro t' x q e; exact h2 t' (c :: x) (by rw [plainS_1 c hc hb, q]; rfl) (by rw [e]; simp)
def plnV (l : Bs) : V := match plainS l with
 | some x => .tup [vs' x, .bool true]
 | none => .tup [vs' [], .bool false]
theorem g132 (h : Has E 81 fn132) {l : Bs} (hl : l.length ≤ 100000) : Gives E 81 [vs' l] (plnV l) := by
 refine h.gives2 (l.length + 50) (show 1 ≤ 54 by omega) ?_
 conv => arg 2; whnf
 refine plain_loop (E := E) l.length l [] [] _ _ (Nat.le_refl _) (by omega) (by simpa using hl) (by simp) rfl rfl rfl ?_ ?_
 ·intro t' q t'2 t'3
  obtain ⟨f_tp, rfl⟩ := mkT_form [(2, _), (3, _)] ⟨t'2, t'3, trivial⟩
  conv => arg 2; whnf
  refine Ok.eq ?_
  unfold plnV; rw [q]; rfl
 ·intro t' x q t'4
  rw [List.nil_append] at t'4
  obtain ⟨f_tp, rfl⟩ := mkT_form [(4, _)] ⟨t'4, trivial⟩
  conv => arg 2; whnf
  refine Ok.eq ?_
  unfold plnV; rw [q]; rfl
end
end Go.Fm
set_option maxHeartbeats 8000000
namespace Go.Fm
def tCut : List V → Option V := sT fun l => .tup [vs' (cutS 32 l).1, vs' (cutS 32 l).2.1, .bool (cutS 32 l).2.2]
def tIsInt : List V → Option V := sT fun l => .bool (isIntS l)
def tSumS : List V → Option V := sT fun l => vs' (Lib.decDigits (sumS l))
def tKSize : List V → Option V := sT sizeV
def tPlainS : List V → Option V := sT plnV
def tNameS : List V → Option V := sT fun l => .bool (isNameS l)
def tInteger : List V → Option V
 | [.str s] => if s.data.toList.length ≤ 9 ∧ s.data.toList.all digB = true then some (vi (intS s.data.toList)) else none
 | _ => none
theorem tCut_at {l a r : Bs} {b : Bool} (h : cutS 32 l = (a, r, b)) (hl : l.length ≤ 100000) : tCut [vs' l] = some (.tup [vs' a, vs' r, .bool b]) := by
 unfold tCut; rw [sT_at hl, h]
theorem tKSize_at {k : Bs} {n : Nat} {t : Bool} (h : formS k = some (n, t)) (hl : k.length ≤ 100000) : tKSize [vs' k] = some (.tup [vi n, .bool t, .bool true]) := by
 unfold tKSize; rw [sT_at hl]; unfold sizeV; rw [h]
theorem tKSize_no {k : Bs} (h : formS k = none) (hl : k.length ≤ 100000) : tKSize [vs' k] = some (.tup [vi 0, .bool false, .bool false]) := by
 unfold tKSize; rw [sT_at hl]; unfold sizeV; rw [h]
theorem tPlainS_at {l x : Bs} (h : plainS l = some x) (hl : l.length ≤ 100000) : tPlainS [vs' l] = some (.tup [vs' x, .bool true]) := by
 unfold tPlainS; rw [sT_at hl]; unfold plnV; rw [h]
theorem tPlainS_no {l : Bs} (h : plainS l = none) (hl : l.length ≤ 100000) : tPlainS [vs' l] = some (.tup [vs' [], .bool false]) := by
 unfold tPlainS; rw [sT_at hl]; unfold plnV; rw [h]
theorem cut_le {c : UInt8} {l a r : Bs} {b : Bool} (h : cutS c l = (a, r, b)) : a.length + r.length ≤ l.length := by
 have := cutS_len (c := c) (l := l); rw [h] at this; exact this
theorem form_cases {k : Bs} {f : Nat × Bool} (h : formS k = some f) : f = (1, true) ∨ f = (2, false) ∨ f = (0, true) ∨ f = (0, false) := by
 unfold formS at h
 repeat' split at h
 all_goals first | (injection h with h; subst h; simp) | cases h
def NamesAt (names : List Bs) (nv : V) (m : Mem) : Prop := (names = [] ∧ nv = .nils) ∨ (names ≠ [] ∧ ∃ i, nv = .sl i 0 names.length none 1 ∧ m.get i = some (.cells (names.map vs') 9))
def PRes (p : Ev' × Bool) (v : V) (m : Mem) : Prop := ∃ nv, NamesAt p.1.names nv m ∧ v = .tup [.agg [vi 0, vs' p.1.kind, nv, .nils, vs' p.1.text], .bool p.2]
def ev0 : Ev' := ⟨[], [], []⟩
def parseR (line : Bs) : Ev' × Bool := match formS (cutS 32 line).1 with
 | none => (ev0, false)
 | some f => match wordsS f.1 (cutS 32 line).2.1 (cutS 32 line).2.2 with
  | none => (ev0, false)
  | some w => if f.2 = true then (match plainS w.2.1 with
   | some x => (⟨(cutS 32 line).1, w.1, x⟩, w.2.2)
   | none => (⟨(cutS 32 line).1, w.1, []⟩, false)) else (⟨(cutS 32 line).1, w.1, []⟩, !w.2.2)
theorem parseR_ok (line : Bs) : parseS line = if (parseR line).2 = true then some (parseR line).1 else none := by
 unfold parseS parseR
 cases h1 : formS (cutS 32 line).1 with
 | none => rfl
 | some f =>
  simp only [Option.bind_some]
  cases h2 : wordsS f.1 (cutS 32 line).2.1 (cutS 32 line).2.2 with
  | none => rfl
  | some w =>
   simp only [Option.bind_some]
   cases h3 : f.2 with
   | true =>
    simp only [if_true]
    cases h4 : plainS w.2.1 with
    | none => by_cases h5 : w.2.2 = true <;> simp [h5]
    | some x => by_cases h5 : w.2.2 = true <;> simp [h5]
   | false => by_cases h5 : w.2.2 = true <;> simp [h5]
def parseP (line : Bs) : Ev' × Bool := match parseS line with
 | some e => (e, true)
 | none => (ev0, false)
theorem NamesAt.nil (m : Mem) : NamesAt [] .nils m := .inl ⟨rfl, rfl⟩
theorem Has.gives3 {E : Env'} {f : FuncId} {fn : RFn} (h : Has E f fn) {Q : V → Mem → Nat → Prop} {vs : List V} (fu : Nat) (hl : vs.length ≤ fn.nt)
  (hr : Ok Q (argsC vs 0 z3 fun t => (comp E fn.body).run fu (callK E fu) t y6 0 [] (endF E fu (callK E fu) fn.res) noE (endF E fu (callK E fu) fn.res))) : ∃ fu, Ok Q (callK E fu (.f f) vs .nil 0) := by
 refine ⟨fu + 1, ?_⟩
 rw [callK_fn h.h1 h.h2 h.h3, fn_run hl, nil_y]
 exact hr
theorem callK_natE {E : Env'} {f : FuncId} {F : List V → Option V} (h1 : E.nat.get f = some F) {K fu : Nat} (hK : K = fu + 1) {vs : List V} {v : V} (hv : F vs = some v) (m : Mem) (n : Nat) : callK E K (.f f) vs m n = some (v, m, n) := by
 subst hK; exact callK_nat h1 fu hv m n
theorem Ok.N {E : Env'} {Q : V → Mem → Nat → Prop} {f : FuncId} {F : List V → Option V} (h1 : E.nat.get f = some F) {K fu : Nat} (hK : K = fu + 1) {vs : List V} {v : V} (hv : F vs = some v) {m : Mem} {n : Nat} {k : V × Mem × Nat → A} (hk : Ok Q (k (v, m, n))) : Ok Q (Option.rec (motive := fun _ => A) none k (callK E K (.f f) vs m n)) := Ok.opt (callK_natE h1 hK hv m n) hk
theorem Ok.callE {E : Env'} {Q : V → Mem → Nat → Prop} {f : FuncId} {fn : RFn} (h : Has E f fn) {k : V × Mem × Nat → A} {K fu : Nat} (hK : K = fu + 1) {vs : List V} {m : Mem} {n : Nat} (hl : vs.length ≤ fn.nt)
  (hr : Ok (fun v m n => Ok Q (k (v, m, n))) (argsC vs 0 z3 fun t => (comp E fn.body).run fu (callK E fu) t m n [] (endF E fu (callK E fu) fn.res) noE (endF E fu (callK E fu) fn.res))) :
  Ok Q (Option.rec (motive := fun _ => A) none k (callK E K (.f f) vs m n)) := by
 subst hK; exact Ok.call h hl hr
section
variable {E : Env'} {Q : V → Mem → Nat → Prop}
attribute [local irreducible] Ok callK loopK lenL nthL takeL dropL eqBs
theorem g60 (h : Has E 41 fn60) (h57 : E.nat.get 39 = some tCut) (h131 : E.nat.get 35 = some tKSize) (h132 : E.nat.get 81 = some tPlainS) {l : Bs} (hl : l.length ≤ 100000) : ∃ fu, Ok (fun v m _ => PRes (parseR l) v m) (callK E fu (.f 41) [vs' l] .nil 0) := by
 obtain ⟨F, F1, F2, F3, h1, h2, h3⟩ : ∃ F F1 F2 F3, F = F1 + 1 ∧ F1 = F2 + 1 ∧ F2 = F3 + 1 := ⟨3, 2, 1, 0, rfl, rfl, rfl⟩
 refine h.gives3 F (show 1 ≤ 70 by omega) ?_
 obtain ⟨⟨kd, r, mo⟩, hk⟩ : ∃ q, cutS 32 l = q := ⟨_, rfl⟩
 obtain ⟨⟨w, r2, m2⟩, hk2⟩ : ∃ q, cutS 32 r = q := ⟨_, rfl⟩
 obtain ⟨⟨w2, r3, m3⟩, hk3⟩ : ∃ q, cutS 32 r2 = q := ⟨_, rfl⟩
 have hkl := cut_le hk
 have hkl2 := cut_le hk2
 have hkl3 := cut_le hk3
 have e57 := tCut_at hk hl
 have e57b := tCut_at hk2 (by omega)
 have e57c := tCut_at hk3 (by omega)
 obtain ⟨p, hp⟩ : ∃ p, parseR l = p := ⟨_, rfl⟩
 rw [hp]
 unfold parseR at hp
 rw [hk] at hp
 simp only at hp
 cases hf : formS kd with
 | none =>
  rw [hf] at hp; simp only at hp; subst hp
  have e131 := tKSize_no hf (by omega)
  conv => arg 2; whnf
  repeat ((first | refine Ok.N h57 h1 e57 ?_ | refine Ok.N h131 h1 e131 ?_); conv => arg 2; whnf)
  exact Ok.done ⟨.nils, .nil _, rfl⟩
 | some f =>
  rw [hf] at hp; simp only at hp
  rcases form_cases hf with rfl | rfl | rfl | rfl
  ·have e131 := tKSize_at hf (by omega)
   cases mo with
   | false =>
    simp only [wordsS] at hp; subst hp
    conv => arg 2; whnf
    repeat ((first | refine Ok.N h57 h1 e57 ?_ | refine Ok.N h131 h1 e131 ?_ | refine Ok.loop F1 h1 ?_); conv => arg 2; whnf)
    exact Ok.done ⟨.nils, .nil _, rfl⟩
   | true =>
    simp only [wordsS, hk2, Bool.true_eq_false, if_false] at hp
    by_cases hw : w = []
    ·have e1 := eqB_t hw
     rw [if_pos hw] at hp; simp only at hp; subst hp
     conv => arg 2; whnf
     repeat ((first | refine Ok.N h57 h1 e57 ?_ | refine Ok.N h131 h1 e131 ?_ | refine Ok.loop F1 h1 ?_ | refine Ok.N h57 h1 e57b ?_ | refine Ok.tt (by exact e1) ?_); conv => arg 2; whnf)
     exact Ok.done ⟨.nils, .nil _, rfl⟩
    ·have e1 := eqB_f hw
     rw [if_neg hw] at hp; simp only [Option.map_some, if_true] at hp
     cases hpl : plainS r2 with
     | none =>
      rw [hpl] at hp; simp only at hp; subst hp
      have e132 := tPlainS_no hpl (by omega)
      cases m2
      ·skip
       conv => arg 2; whnf
       repeat ((first | refine Ok.N h57 h1 e57 ?_ | refine Ok.N h131 h1 e131 ?_ | refine Ok.loop F1 h1 ?_ | refine Ok.N h57 h1 e57b ?_ | refine Ok.ff (by exact e1) ?_ | refine Ok.loop F2 h2 ?_ | refine Ok.N h132 h1 e132 ?_); conv => arg 2; whnf)
       exact Ok.done ⟨_, .inr ⟨by simp, _, rfl, rfl⟩, rfl⟩
      ·skip
       conv => arg 2; whnf
       repeat ((first | refine Ok.N h57 h1 e57 ?_ | refine Ok.N h131 h1 e131 ?_ | refine Ok.loop F1 h1 ?_ | refine Ok.N h57 h1 e57b ?_ | refine Ok.ff (by exact e1) ?_ | refine Ok.loop F2 h2 ?_ | refine Ok.N h132 h1 e132 ?_); conv => arg 2; whnf)
       exact Ok.done ⟨_, .inr ⟨by simp, _, rfl, rfl⟩, rfl⟩
     | some x =>
      rw [hpl] at hp; simp only at hp; subst hp
      have e132 := tPlainS_at hpl (by omega)
      cases m2
      ·skip
       conv => arg 2; whnf
       repeat ((first | refine Ok.N h57 h1 e57 ?_ | refine Ok.N h131 h1 e131 ?_ | refine Ok.loop F1 h1 ?_ | refine Ok.N h57 h1 e57b ?_ | refine Ok.ff (by exact e1) ?_ | refine Ok.loop F2 h2 ?_ | refine Ok.N h132 h1 e132 ?_); conv => arg 2; whnf)
       exact Ok.done ⟨_, .inr ⟨by simp, _, rfl, rfl⟩, rfl⟩
      ·skip
       conv => arg 2; whnf
       repeat ((first | refine Ok.N h57 h1 e57 ?_ | refine Ok.N h131 h1 e131 ?_ | refine Ok.loop F1 h1 ?_ | refine Ok.N h57 h1 e57b ?_ | refine Ok.ff (by exact e1) ?_ | refine Ok.loop F2 h2 ?_ | refine Ok.N h132 h1 e132 ?_); conv => arg 2; whnf)
       exact Ok.done ⟨_, .inr ⟨by simp, _, rfl, rfl⟩, rfl⟩
  ·have e131 := tKSize_at hf (by omega)
   cases mo with
   | false =>
    simp only [wordsS] at hp; subst hp
    conv => arg 2; whnf
    repeat ((first | refine Ok.N h57 h1 e57 ?_ | refine Ok.N h131 h1 e131 ?_ | refine Ok.loop F1 h1 ?_); conv => arg 2; whnf)
    exact Ok.done ⟨.nils, .nil _, rfl⟩
   | true =>
    simp only [wordsS, hk2, Bool.true_eq_false, if_false] at hp
    by_cases hw : w = []
    ·have e1 := eqB_t hw
     rw [if_pos hw] at hp; simp only [Option.map_none] at hp; subst hp
     conv => arg 2; whnf
     repeat ((first | refine Ok.N h57 h1 e57 ?_ | refine Ok.N h131 h1 e131 ?_ | refine Ok.loop F1 h1 ?_ | refine Ok.N h57 h1 e57b ?_ | refine Ok.tt (by exact e1) ?_); conv => arg 2; whnf)
     exact Ok.done ⟨.nils, .nil _, rfl⟩
    ·have e1 := eqB_f hw
     rw [if_neg hw] at hp
     cases m2 with
     | false =>
      simp only [if_true, Option.map_none] at hp; subst hp
      conv => arg 2; whnf
      repeat ((first | refine Ok.N h57 h1 e57 ?_ | refine Ok.N h131 h1 e131 ?_ | refine Ok.loop F1 h1 ?_ | refine Ok.N h57 h1 e57b ?_ | refine Ok.ff (by exact e1) ?_ | refine Ok.loop F2 h2 ?_); conv => arg 2; whnf)
      exact Ok.done ⟨.nils, .nil _, rfl⟩
     | true =>
      simp only [hk3, Bool.true_eq_false, if_false] at hp
      by_cases hw2 : w2 = []
      ·have e2 := eqB_t hw2
       rw [if_pos hw2] at hp; simp only [Option.map_none] at hp; subst hp
       conv => arg 2; whnf
       repeat ((first | refine Ok.N h57 h1 e57 ?_ | refine Ok.N h131 h1 e131 ?_ | refine Ok.loop F1 h1 ?_ | refine Ok.N h57 h1 e57b ?_ | refine Ok.ff (by exact e1) ?_ | refine Ok.loop F2 h2 ?_ | refine Ok.N h57 h1 e57c ?_ | refine Ok.tt (by exact e2) ?_); conv => arg 2; whnf)
       exact Ok.done ⟨.nils, .nil _, rfl⟩
      ·have e2 := eqB_f hw2
       rw [if_neg hw2] at hp; simp only [Option.map_some, Bool.false_eq_true, if_false] at hp; subst hp
       conv => arg 2; whnf
       repeat ((first | refine Ok.N h57 h1 e57 ?_ | refine Ok.N h131 h1 e131 ?_ | refine Ok.loop F1 h1 ?_ | refine Ok.N h57 h1 e57b ?_ | refine Ok.ff (by exact e1) ?_ | refine Ok.loop F2 h2 ?_ | refine Ok.N h57 h1 e57c ?_ | refine Ok.ff (by exact e2) ?_ | refine Ok.loop F3 h3 ?_); conv => arg 2; whnf)
       exact Ok.done ⟨_, .inr ⟨by simp, _, rfl, rfl⟩, by cases m3 <;> rfl⟩
  ·have e131 := tKSize_at hf (by omega)
   simp only [wordsS, if_true] at hp
   cases hpl : plainS r with
   | none =>
    rw [hpl] at hp; simp only at hp; subst hp
    have e132 := tPlainS_no hpl (by omega)
    cases mo
    ·skip
     conv => arg 2; whnf
     repeat ((first | refine Ok.N h57 h1 e57 ?_ | refine Ok.N h131 h1 e131 ?_ | refine Ok.loop F1 h1 ?_ | refine Ok.N h132 h1 e132 ?_); conv => arg 2; whnf)
     exact Ok.done ⟨.nils, .nil _, rfl⟩
    ·skip
     conv => arg 2; whnf
     repeat ((first | refine Ok.N h57 h1 e57 ?_ | refine Ok.N h131 h1 e131 ?_ | refine Ok.loop F1 h1 ?_ | refine Ok.N h132 h1 e132 ?_); conv => arg 2; whnf)
     exact Ok.done ⟨.nils, .nil _, rfl⟩
   | some x =>
    rw [hpl] at hp; simp only at hp; subst hp
    have e132 := tPlainS_at hpl (by omega)
    cases mo
    ·skip
     conv => arg 2; whnf
     repeat ((first | refine Ok.N h57 h1 e57 ?_ | refine Ok.N h131 h1 e131 ?_ | refine Ok.loop F1 h1 ?_ | refine Ok.N h132 h1 e132 ?_); conv => arg 2; whnf)
     exact Ok.done ⟨.nils, .nil _, rfl⟩
    ·skip
     conv => arg 2; whnf
     repeat ((first | refine Ok.N h57 h1 e57 ?_ | refine Ok.N h131 h1 e131 ?_ | refine Ok.loop F1 h1 ?_ | refine Ok.N h132 h1 e132 ?_); conv => arg 2; whnf)
     exact Ok.done ⟨.nils, .nil _, rfl⟩
  ·have e131 := tKSize_at hf (by omega)
   simp only [wordsS, Bool.false_eq_true, if_false] at hp; subst hp
   conv => arg 2; whnf
   repeat ((first | refine Ok.N h57 h1 e57 ?_ | refine Ok.N h131 h1 e131 ?_ | refine Ok.loop F1 h1 ?_); conv => arg 2; whnf)
   exact Ok.done ⟨_, .nil _, by cases mo <;> rfl⟩
end
end Go.Fm
set_option maxHeartbeats 8000000
namespace Go.Fm
def chkN (num : Nat) (names : List Bs) (text : Bs) : Nat := if num < 1 then 3 else if 1000 < num then 3 else if names.all isNameS = false then 8 else if 4096 < text.length then 29 else 0
def nvOf (names : List Bs) : V := match names with
 | [] => .nils
 | _ => .sl 0 0 names.length none 1
def preOf (names : List Bs) : List (Nat × B) := match names with
 | [] => []
 | _ => [(0, .cells (names.map vs') 9)]
def KeepN (names : List Bs) (m : Mem) : Prop := names = [] ∨ m.get 0 = some (.cells (names.map vs') 9)
def m1 (b : B) : Mem := (⟨(⟨(⟨(⟨(⟨(⟨(some b : Option B), y0, y0, y0, y0, y0, y0, y0⟩ : N8 (Tr 0 B)), y1, y1, y1, y1, y1, y1, y1⟩ : N8 (Tr 1 B)), y2, y2, y2, y2, y2, y2, y2⟩ : N8 (Tr 2 B)), y3, y3, y3, y3, y3, y3, y3⟩ : N8 (Tr 3 B)), y4, y4, y4, y4, y4, y4, y4⟩ : N8 (Tr 4 B)), y5, y5, y5, y5, y5, y5, y5⟩ : N8 (Tr 5 B))
theorem memOf_1 (b : B) : memOf [(0, b)] = m1 b := by
 have e : Tr.set fuel (memOf []) 0 (some b) = some (m1 b) := by
  rw [show memOf [] = y6 from nil_y, set6 y6 0 (some b) rfl]; rfl
 unfold memOf
 simp only [e]
theorem tNameS_at {l : Bs} {b : Bool} (h : isNameS l = b) (hl : l.length ≤ 100000) : tNameS [vs' l] = some (.bool b) := by
 unfold tNameS; rw [sT_at hl, h]
end Go.Fm
set_option maxHeartbeats 8000000
namespace Go.Fm
theorem callK_mnatE {E : Env'} {f : FuncId} {F : List V → Mem → Nat → Option (V × Mem × Nat)} (h0 : E.nat.get f = none) (h1 : E.mnat.get f = some F) {K fu : Nat} (hK : K = fu + 1) {vs : List V} {m : Mem} {n : Nat} {r : V × Mem × Nat} (hv : F vs m n = some r) : callK E K (.f f) vs m n = some r := by
 subst hK
 show callF E fu (callK E fu) f vs m n = _
 unfold callF
 rw [h0, h1]
 exact hv
structure EvO where
 names : List Bs
 num : Nat
 kind : Bs
 text : Bs
 last : V
def EvO.val (o : EvO) (nv : V) : V := .tup [.agg [vi o.num, vs' o.kind, nv, .nils, vs' o.text], o.last]
def ORes (o : EvO) (v : V) (m : Mem) : Prop := ∃ nv, NamesAt o.names nv m ∧ v = o.val nv
def EvO.plain (o : EvO) : Prop := (∃ b, o.last = .bool b) ∨ ∃ n : Int, o.last = .int .i64 n
def putNames (names : List Bs) (m : Mem) (n : Nat) (k : V → Mem → Nat → Option (V × Mem × Nat)) : Option (V × Mem × Nat) := match names with
 | [] => k .nils m n
 | _ => match Tr.set fuel m n (some (.cells (names.map vs') 9)) with
  | some m' => k (.sl n 0 names.length none 1) m' (n + 1)
  | none => none
def tEv (G : Bs → EvO) : List V → Mem → Nat → Option (V × Mem × Nat) := fun vs m n => match vs with
 | [.str s] => if s.data.toList.length ≤ 100000 then putNames (G s.data.toList).names m n fun nv m' n' => some ((G s.data.toList).val nv, m', n') else none
 | _ => none
def namesOf (nv : V) (m : Mem) : Option (List Bs) := match nv with
 | .nils => some []
 | .sl id 0 len none 1 => match m.get id with
  | some (.cells [.str a] 9) => if len = 1 then some [a.data.toList] else none
  | some (.cells [.str a, .str b] 9) => if len = 2 then some [a.data.toList, b.data.toList] else none
  | _ => none
 | _ => none
def ChkOk (num : Int) (kd : Bs) (names : List Bs) (text : Bs) : Prop := 0 ≤ num ∧ num ≤ 1000000000 ∧ kd.length ≤ 100000 ∧ text.length ≤ 100000 ∧ (∀ a ∈ names, a.length ≤ 100000) ∧ ∃ t, formS kd = some (names.length, t) ∧ (t = false → text = [])
open Classical in
def tChk : List V → Mem → Nat → Option (V × Mem × Nat) := fun vs m n => match vs with
 | [.agg [.int .i64 num, .str kd, nv, .nils, .str text]] => match namesOf nv m with
  | some names => if ChkOk num kd.data.toList names text.data.toList then some (vi (chkN num.toNat names text.data.toList), m, n) else none
  | none => none
 | _ => none
open Classical in
theorem tChk_at {num : Nat} {kd text : Bs} {nv : V} {names : List Bs} {m : Mem} {n : Nat} (h1 : namesOf nv m = some names) (h2 : ChkOk num kd names text) : tChk [.agg [vi num, vs' kd, nv, .nils, vs' text]] m n = some (vi (chkN num names text), m, n) := by
 show (match namesOf nv m with
  | some names => if ChkOk num kd names text then some (vi (chkN (num : Int).toNat names text), m, n) else none
  | none => none) = _
 rw [h1]
 show (if ChkOk num kd names text then some (vi (chkN (num : Int).toNat names text), m, n) else none) = _
 rw [if_pos h2]; rfl
section
variable [Ctx] {P : Program} {E : Env'}
theorem row_run {f : FuncId} {e : Ent} (h : ∃ fu, Ok (fun v m' _ => simV (inS e) e.v v = true ∧ ∀ p ∈ e.post, ∃ b, m'.get p.1 = some b ∧ simB (inS e) p.2 b = true) (callK E fu (.f f) e.vs (memOf e.pre) e.n)) : Row E f e := by
 obtain ⟨fu, v, m', n', h1, h2, h3⟩ := h
 obtain ⟨j0, hj⟩ := callK_ok fu _ _ _ _ _ h1
 exact ⟨j0, v, m', n', hj j0 (Nat.le_refl _), h2, h3⟩
theorem sim_str (r : Nat → Option Nat) (l : Bs) : simV r (vs' l) (vs' l) = true := by simp [simV]
theorem sim_strs (r : Nat → Option Nat) : ∀ ns : List Bs, simV.simL r (ns.map vs') (ns.map vs') = true
 | [] => rfl
 | a :: l => by
  show (simV r (vs' a) (vs' a) && simV.simL r (l.map vs') (l.map vs')) = true
  rw [sim_str, sim_strs r l]; rfl
theorem ren_strs (r : Nat → Nat) : ∀ ns : List Bs, renV.renL r (ns.map vs') = ns.map vs'
 | [] => rfl
 | a :: l => by
  show vs' a :: renV.renL r (l.map vs') = vs' a :: l.map vs'
  rw [ren_strs r l]
theorem ms_ev (hE : EnvOk P E) {f : FuncId} {G : Bs → EvO} (hp : ∀ l, (G l).plain) (h : ∀ l : Bs, l.length ≤ 100000 → ∃ fu, Ok (fun v m _ => ORes (G l) v m) (callK E fu (.f f) [vs' l] .nil 0)) : MSpec P f (tEv G) := by
 refine fam_ok hE fun vs m n r hF => ?_
 unfold tEv at hF
 split at hF
 case h_2 => cases hF
 rename_i s
 split at hF
 case isFalse => cases hF
 rename_i hl
 generalize hs : s.data.toList = l at hF hl
 have hs' : (V.str s) = vs' l := by subst hs; rfl
 rw [hs']
 obtain ⟨fu, v, m0, n0, hrun, nv, hn, rfl⟩ := h l hl
 have hlast : ∀ q, simV q (G l).last (G l).last = true := by
  intro q
  rcases hp l with ⟨b, e⟩ | ⟨k, e⟩ <;> rw [e] <;> simp [simV]
 have hren : ∀ q, renV q (G l).last = (G l).last := by
  intro q
  rcases hp l with ⟨b, e⟩ | ⟨k, e⟩ <;> rw [e] <;> rfl
 rcases hn with ⟨h1, rfl⟩ | ⟨h1, i, rfl, hm⟩
 ·rw [h1] at hF
  injection hF with hF; subst hF
  refine ⟨⟨[vs' l], [], 0, (G l).val .nils, []⟩, [], row_run ⟨fu, _, _, _, hrun, ?_, by simp⟩, ?_⟩
  ·simp [EvO.val, simV, simV.simL, hlast, vi]
  ·have ho : okIn ⟨[vs' l], [], 0, (G l).val .nils, []⟩ [] [vs' l] m = true := by simp [okIn, simV.simL, simV, injB]
   simp only [useEnt, ho, cond_true, dropAll, Option.bind_some, putAll, Option.map_some, freshOf, List.length_nil, Nat.add_zero]
   simp only [EvO.val, renV, renV.renL, hren, vi]
 ·have hF' : (match Tr.set fuel m n (some (.cells ((G l).names.map vs') 9)) with
   | some m' => some ((G l).val (.sl n 0 (G l).names.length none 1), m', n + 1)
   | none => none) = some r := by
   revert hF
   unfold putNames
   split
   ·rename_i e; exact absurd e h1
   ·exact id
  split at hF'
  case h_2 => cases hF'
  rename_i m' hset
  injection hF' with hF'; subst hF'
  let e : Ent := ⟨[vs' l], [], 0, (G l).val (.sl i 0 (G l).names.length none 1), [(i, .cells ((G l).names.map vs') 9)]⟩
  have hb : Nat.blt i 0 = false := blt_false (Nat.zero_le _)
  have hfr : freshOf 0 e.post = [i] := by show (bif Nat.blt i 0 then freshOf 0 [] else i :: freshOf 0 []) = _; rw [hb]; rfl
  have hin : inS e i = some i := by
   show (bif Nat.blt i 0 then some i else (pos i (freshOf 0 e.post) 0).map fun _ => i) = _
   rw [hb, hfr]; simp [pos]
  have hout : outR e [] n i = n := by
   show (bif Nat.blt i 0 then orZ (lk [] i) else orZ (pos i (freshOf 0 e.post) n)) = _
   rw [hb, hfr]; simp [pos, orZ]
  refine ⟨e, [], row_run ⟨fu, _, _, _, hrun, ?_, ?_⟩, ?_⟩
  ·show simV (inS e) ((G l).val (.sl i 0 (G l).names.length none 1)) ((G l).val (.sl i 0 (G l).names.length none 1)) = true
   simp [EvO.val, simV, simV.simL, hlast, hin, vi]
  ·intro p hp
   obtain rfl : p = (i, .cells ((G l).names.map vs') 9) := by simpa [e] using hp
   exact ⟨_, hm, by simp [simB, sim_strs]⟩
  ·have ho : okIn e [] [vs' l] m = true := by simp [e, okIn, simV.simL, simV, injB]
   have hpa : putAll (outR e [] n) e.post m = some m' := by
    show (match Tr.set fuel m (outR e [] n i) (some (renB (outR e [] n) (.cells ((G l).names.map vs') 9))) with
     | some m => putAll (outR e [] n) [] m
     | none => none) = _
    rw [hout]
    have : renB (outR e [] n) (.cells ((G l).names.map vs') 9) = .cells ((G l).names.map vs') 9 := by simp [renB, ren_strs]
    rw [this, hset]; rfl
   have hd : dropAll [] e.pre m = some m := rfl
   unfold useEnt
   rw [ho, cond_true, hd, Option.bind_some, hpa]
   show some (renV (outR e [] n) e.v, m', n + (freshOf 0 e.post).length) = _
   rw [hfr]
   show some (renV (outR e [] n) ((G l).val (.sl i 0 (G l).names.length none 1)), m', n + 1) = _
   simp only [EvO.val, renV, renV.renL, hren, hout, vi]
theorem fam_same (hE : EnvOk P E) {f : FuncId} {F : List V → Mem → Nat → Option (V × Mem × Nat)} (h : ∀ vs m n v m' n', F vs m n = some (v, m', n') → ∃ e ρ m2, Row E f e ∧ useEnt e ρ vs m n = some (v, m2, n') ∧ ∀ j, m'.get j = m2.get j) : MSpec P f F := by
 intro vs m n v m' n' e
 obtain ⟨en, ρ, m2, hrow, e2, hm⟩ := h vs m n v m' n' e
 obtain ⟨mo, hc⟩ := useEnt_ok hE hrow e2
 refine ⟨⟨mo.1, fun id b hb => mo.2 id b (by rw [← hm]; exact hb)⟩, fun β kn args w hms hva hfr r o a next Q hnext => hc β kn args w hms hva hfr r o a next Q fun β' x w' hg hx => hnext β' x w' ⟨hg.ext, ⟨hg.fr.os, hg.fr.tape, hg.fr.output, hg.fr.size, hg.fr.block, fun id c hcc => hg.fr.grow id c (by rw [← hm]; exact hcc)⟩, ⟨fun id b hb => hg.ms.blk id b (by rw [← hm]; exact hb), fun i j b c h1 h2 => hg.ms.inj i j b c (by rw [← hm]; exact h1) (by rw [← hm]; exact h2), fun q hq => ⟨(hg.ms.gl q hq).1, fun id c hcc => (hg.ms.gl q hq).2 id c (by rw [← hm]; exact hcc)⟩⟩⟩ hx⟩
theorem Tr.get_lt {α : Type} : ∀ {d : Nat} {t : Tr d α} {k : Nat} {v : α}, t.get k = some v → k < 8 ^ d
 | 0, t, 0, v, _ => by simp
 | 0, t, k + 1, v, h => by cases h
 | d + 1, t, k, v, h => by
  have : Tr.get (N8.sel (α := Tr d α) t (k % 8)) (k / 8) = some v := h
  have := Tr.get_lt this
  rw [Nat.pow_succ]; omega
theorem ms_chk (hE : EnvOk P E) {f : FuncId} (h : ∀ (num : Nat) (kd text : Bs) (names : List Bs), ChkOk num kd names text →
  ∃ fu, Ok (fun v m _ => v = vi (chkN num names text) ∧ KeepN names m) (callK E fu (.f f) [.agg [vi num, vs' kd, nvOf names, .nils, vs' text]] (memOf (preOf names)) (if names = [] then 0 else 1))) : MSpec P f tChk := by
 refine fam_same hE fun vs m n v m' n' hF => ?_
 unfold tChk at hF
 split at hF
 case h_2 => cases hF
 rename_i num kd nv text
 split at hF
 case h_2 => cases hF
 rename_i names hn
 split at hF
 case isFalse => cases hF
 rename_i hck
 injection hF with hF; injection hF with hv hF; injection hF with hm hnn
 subst hv; subst hm; subst hnn
 obtain ⟨x, rfl⟩ : ∃ x : Nat, num = x := ⟨num.toNat, by have := hck.1; omega⟩
 obtain ⟨fu, v0, m0, n0, hrun, hv0, hk⟩ := h x kd.data.toList text.data.toList names hck
 subst hv0
 have hkd : V.str kd = vs' kd.data.toList := rfl
 have htx : V.str text = vs' text.data.toList := rfl
 by_cases h0 : names = []
 ·subst h0
  have hnv : nv = .nils := by
   unfold namesOf at hn
   split at hn
   ·rfl
   ·split at hn
    ·split at hn <;> simp at hn
    ·split at hn <;> simp at hn
    ·cases hn
   ·cases hn
  subst hnv
  rw [if_pos rfl] at hrun
  refine ⟨⟨[.agg [vi x, vs' kd.data.toList, .nils, .nils, vs' text.data.toList]], [], 0, vi (chkN x [] text.data.toList), []⟩, [], m, row_run ⟨fu, _, _, _, hrun, ?_, by simp⟩, ?_, fun _ => rfl⟩
  ·simp [vi, simV]
  ·have ho : okIn ⟨[.agg [vi x, vs' kd.data.toList, .nils, .nils, vs' text.data.toList]], [], 0, vi (chkN x [] text.data.toList), []⟩ [] [.agg [.int .i64 x, .str kd, .nils, .nils, .str text]] m = true := by simp [okIn, simV.simL, simV, injB, vi]
   simp only [useEnt, ho, cond_true, dropAll, Option.bind_some, putAll, Option.map_some, freshOf, List.length_nil, Nat.add_zero]
   rfl
 ·obtain ⟨id, hnv, hget⟩ : ∃ id, nv = .sl id 0 names.length none 1 ∧ m.get id = some (.cells (names.map vs') 9) := by
   unfold namesOf at hn
   split at hn
   ·injection hn with hn; exact absurd hn.symm h0
   ·rename_i id len
    split at hn
    ·rename_i a hg
     split at hn
     ·rename_i hl; injection hn with hn; subst hn; exact ⟨id, by rw [hl]; rfl, hg⟩
     ·cases hn
    ·rename_i a b hg
     split at hn
     ·rename_i hl; injection hn with hn; subst hn; exact ⟨id, by rw [hl]; rfl, hg⟩
     ·cases hn
    ·cases hn
   ·cases hn
  subst hnv
  rw [if_neg h0] at hrun
  have hpre : preOf names = [(0, .cells (names.map vs') 9)] := by
   unfold preOf; split
   ·rename_i e; exact absurd rfl h0
   ·rfl
  have hnvo : nvOf names = .sl 0 0 names.length none 1 := by
   unfold nvOf; split
   ·rename_i e; exact absurd rfl h0
   ·rfl
  rw [hpre, hnvo] at hrun
  have hk' : m0.get 0 = some (.cells (names.map vs') 9) := by rcases hk with q | q; exact absurd q h0; exact q
  let e : Ent := ⟨[.agg [vi x, vs' kd.data.toList, .sl 0 0 names.length none 1, .nils, vs' text.data.toList]], [(0, .cells (names.map vs') 9)], 1, vi (chkN x names text.data.toList), [(0, .cells (names.map vs') 9)]⟩
  obtain ⟨m1', hs1⟩ := Tr.set_any (d := 6) (f := fuel) (k := id) (t := m) (t1 := _) (x := none) (Classical.choose_spec (Tr.set_ok (f := fuel) (Tr.get_lt hget) m none)) m none
  obtain ⟨m2, hs2⟩ := Tr.set_ok (f := fuel) (Tr.get_lt hget) m1' (some (B.cells (names.map vs') 9))
  have hb : Nat.blt 0 1 = true := rfl
  refine ⟨e, [(0, id)], m2, row_run ⟨fu, _, _, _, hrun, ?_, ?_⟩, ?_, ?_⟩
  ·show simV (inS e) (vi _) (vi _) = true
   simp [vi, simV]
  ·intro p hp
   obtain rfl : p = (0, .cells (names.map vs') 9) := by simpa [e] using hp
   exact ⟨_, hk', by simp [simB, sim_strs]⟩
  ·have ho : okIn e [(0, id)] [.agg [.int .i64 x, .str kd, .sl id 0 names.length none 1, .nils, .str text]] m = true := by
    simp [e, okIn, simV.simL, simV, injB, vi, lk, preOk, hget, simB, sim_strs]
   have hout : outR e [(0, id)] n 0 = id := rfl
   have hd : dropAll [(0, id)] e.pre m = some m1' := by
    show (match lk [(0, id)] 0 with
     | some j => match Tr.set fuel m j none with
      | some m => dropAll [(0, id)] [] m
      | none => none
     | none => none) = _
    show (match Tr.set fuel m id none with
      | some m => dropAll [(0, id)] [] m
      | none => none) = _
    rw [hs1]; rfl
   have hpa : putAll (outR e [(0, id)] n) e.post m1' = some m2 := by
    show (match Tr.set fuel m1' (outR e [(0, id)] n 0) (some (renB (outR e [(0, id)] n) (.cells (names.map vs') 9))) with
     | some m => putAll (outR e [(0, id)] n) [] m
     | none => none) = _
    have : renB (outR e [(0, id)] n) (.cells (names.map vs') 9) = .cells (names.map vs') 9 := by simp [renB, ren_strs]
    rw [hout, this, hs2]; rfl
   unfold useEnt
   rw [ho, cond_true, hd, Option.bind_some, hpa]
   rfl
  ·intro j
   rw [Tr.get_set hs2, Tr.get_set hs1]
   by_cases hj : j = id
   ·rw [if_pos hj, hj]; exact hget
   ·rw [if_neg hj, if_neg hj]
end
end Go.Fm
set_option maxHeartbeats 8000000
namespace Go.Fm
theorem plainS_len : ∀ (j : Nat) (l x : Bs), l.length ≤ j → plainS l = some x → x.length ≤ l.length
 | _, [], x, _, h => by simp [plainS] at h; subst h; simp
 | 0, c :: l, x, hj, _ => by simp at hj
 | j + 1, [c], x, hj, h => by
  simp only [plainS] at h
  split at h
  ·cases h
  ·injection h with h; subst h; simp
 | j + 1, c :: d :: r, x, hj, h => by
  simp only [List.length_cons] at hj
  simp only [plainS] at h
  split at h
  ·cases h
  ·split at h
   ·split at h
    ·simp only [oMs] at h
     obtain ⟨y, h1, rfl⟩ := h
     have := plainS_len j r y (by omega) h1
     simp; omega
    ·split at h
     ·simp only [oMs] at h
      obtain ⟨y, h1, rfl⟩ := h
      have := plainS_len j r y (by omega) h1
      simp; omega
     ·cases h
   ·simp only [oMs] at h
    obtain ⟨y, h1, rfl⟩ := h
    have := plainS_len j (d :: r) y (by simp; omega) h1
    simp at this ⊢; omega
theorem wordsS_len : ∀ (n : Nat) (r : Bs) (m : Bool) (w : List Bs × Bs × Bool), wordsS n r m = some w → w.1.length = n ∧ (∀ a ∈ w.1, a.length ≤ r.length) ∧ w.2.1.length ≤ r.length
 | 0, r, m, w, h => by simp [wordsS] at h; subst h; simp
 | n + 1, r, m, w, h => by
  simp only [wordsS] at h
  split at h
  ·cases h
  ·split at h
   ·cases h
   ·simp only [oMs] at h
    obtain ⟨y, h1, rfl⟩ := h
    obtain ⟨h2, h3, h4⟩ := wordsS_len n _ _ _ h1
    have hc := cutS_len (c := 32) (l := r)
    refine ⟨by simp [h2], ?_, Nat.le_trans h4 (by omega)⟩
    intro a ha
    rcases List.mem_cons.1 ha with e | ha
    ·have e' : a.length = (cutS 32 r).1.length := congrArg List.length e
     omega
    ·exact Nat.le_trans (h3 a ha) (by omega)
theorem parseR_true {l : Bs} {ev : Ev'} (h : parseR l = (ev, true)) (hl : l.length ≤ 100000) (num : Nat) (hn : num ≤ 1000000000) : ChkOk num ev.kind ev.names ev.text := by
 unfold parseR at h
 have hc := cutS_len (c := 32) (l := l)
 split at h
 ·cases h
 ·rename_i f hf
  split at h
  ·cases h
  ·rename_i w hw
   obtain ⟨h2, h3, h4⟩ := wordsS_len _ _ _ _ hw
   split at h
   ·rename_i ht
    split at h
    ·rename_i x hx
     injection h with h hm
     subst h
     have := plainS_len _ _ _ (Nat.le_refl _) hx
     exact ⟨by omega, by omega, by simp; omega, by simp; omega, fun a ha => by have := h3 a ha; omega, true, by simp only [h2]; rw [hf]; exact congrArg some (Prod.ext rfl ht), fun q => by cases q⟩
    ·cases h
   ·rename_i ht
    injection h with h hm
    subst h
    exact ⟨by omega, by omega, by simp; omega, by simp, fun a ha => by have := h3 a ha; omega, false, by simp only [h2]; rw [hf]; exact congrArg some (Prod.ext rfl (by simpa using ht)), fun _ => rfl⟩
theorem chkN_zero (num : Nat) (e : Ev') : (chkN num e.names e.text = 0) ↔ checkS num e = true := by
 unfold chkN checkS
 by_cases q1 : num < 1
 ·simp [q1]; omega
 by_cases q2 : 1000 < num
 ·simp [q1, q2]; omega
 by_cases q3 : e.names.all isNameS = false
 ·rw [if_neg q1, if_neg q2, if_pos q3]; simp [q3]
 have q3' : e.names.all isNameS = true := by simpa using q3
 by_cases q4 : 4096 < e.text.length
 ·rw [if_neg q1, if_neg q2, if_neg q3, if_pos q4]; simp; omega
 ·rw [if_neg q1, if_neg q2, if_neg q3, if_neg q4, q3']; simp; omega
def decO (l : Bs) : EvO := match decodeS Lib.decDigits l with
 | .inr b => ⟨[], 0, [], [], vi b⟩
 | .inl e => ⟨e.ev.names, e.num, e.ev.kind, e.ev.text, vi 0⟩
def parO (g : Bs → Ev' × Bool) (l : Bs) : EvO := ⟨(g l).1.names, 0, (g l).1.kind, (g l).1.text, .bool (g l).2⟩
theorem parO_plain (g : Bs → Ev' × Bool) (l : Bs) : (parO g l).plain := .inl ⟨_, rfl⟩
theorem decO_plain (l : Bs) : (decO l).plain := by
 unfold decO
 split
 ·exact .inr ⟨_, rfl⟩
 ·exact .inr ⟨_, rfl⟩
def setM (m : T6) (i : Nat) (o : Option B) : T6 := m.upd (i % 8) ((m.sel (i % 8)).upd (i / 8 % 8) (((m.sel (i % 8)).sel (i / 8 % 8)).upd (i / 8 / 8 % 8) ((((m.sel (i % 8)).sel (i / 8 % 8)).sel (i / 8 / 8 % 8)).upd (i / 8 / 8 / 8 % 8)
   (((((m.sel (i % 8)).sel (i / 8 % 8)).sel (i / 8 / 8 % 8)).sel (i / 8 / 8 / 8 % 8)).upd (i / 8 / 8 / 8 / 8 % 8) ((((((m.sel (i % 8)).sel (i / 8 % 8)).sel (i / 8 / 8 % 8)).sel (i / 8 / 8 / 8 % 8)).sel (i / 8 / 8 / 8 / 8 % 8)).upd (i / 8 / 8 / 8 / 8 / 8 % 8) o)))))
theorem setM_ok (m : Mem) (i : Nat) (o : Option B) (h : i / 8 / 8 / 8 / 8 / 8 / 8 = 0) : Tr.set (d := 6) (α := B) fuel m i o = some (setM m i o) := set6 m i o h
theorem tEv_nil {G : Bs → EvO} {l : Bs} (hl : l.length ≤ 100000) (hn : (G l).names = []) (m : Mem) (n : Nat) : tEv G [vs' l] m n = some ((G l).val .nils, m, n) := by
 show (if l.length ≤ 100000 then putNames (G l).names m n fun nv m' n' => some ((G l).val nv, m', n') else none) = _
 rw [if_pos hl, hn]; rfl
theorem tEv_set {G : Bs → EvO} {l : Bs} (hl : l.length ≤ 100000) (hn : (G l).names ≠ []) (m : Mem) (n : Nat) (hi : n / 8 / 8 / 8 / 8 / 8 / 8 = 0) : tEv G [vs' l] m n = some ((G l).val (.sl n 0 (G l).names.length none 1), setM m n (some (.cells ((G l).names.map vs') 9)), n + 1) := by
 show (if l.length ≤ 100000 then putNames (G l).names m n fun nv m' n' => some ((G l).val nv, m', n') else none) = _
 rw [if_pos hl]
 unfold putNames
 split
 ·rename_i e; exact absurd e hn
 ·rw [setM_ok _ _ _ hi]; rfl
theorem tInteger_at {l : Bs} (h : isIntS l = true) : tInteger [vs' l] = some (vi (intS l)) := by
 unfold isIntS at h
 simp only [Bool.and_eq_true, decide_eq_true_eq] at h
 show (if l.length ≤ 9 ∧ l.all digB = true then some (vi (intS l)) else none) = _
 rw [if_pos ⟨h.1.1.2, h.1.2⟩]
theorem intS_le {l : Bs} (h : isIntS l = true) : intS l ≤ 1000000000 := by
 unfold isIntS at h
 simp only [Bool.and_eq_true, decide_eq_true_eq] at h
 have := intS_lt l h.1.2
 have h2 : 10 ^ l.length ≤ 10 ^ 9 := Nat.pow_le_pow_right (by omega) h.1.1.2
 have : (10 : Nat) ^ 9 = 1000000000 := by decide
 omega
section
variable {E : Env'} {Q : V → Mem → Nat → Prop}
attribute [local irreducible] Ok callK loopK lenL nthL takeL dropL eqBs
theorem g23 (h : Has E 13 fn23) (h57 : E.nat.get 39 = some tCut) (h58 : E.nat.get 40 = some tIsInt) (h59 : E.nat.get 38 = some tSumS) (h61 : E.nat.get 42 = some tInteger) (n60 : E.nat.get 41 = none) (h60 : E.mnat.get 41 = some (tEv (parO parseR))) (n62 : E.nat.get 9 = none) (h62 : E.mnat.get 9 = some tChk) {l : Bs} (hl : l.length ≤ 100000) : ∃ fu, Ok (fun v m _ => ORes (decO l) v m) (callK E fu (.f 13) [vs' l] .nil 0) := by
 obtain ⟨F, F1, h1⟩ : ∃ F F1, F = F1 + 1 := ⟨1, 0, rfl⟩
 refine h.gives3 F (show 1 ≤ 65 by omega) ?_
 obtain ⟨⟨a, r, b⟩, hk⟩ : ∃ q, cutS 32 l = q := ⟨_, rfl⟩
 obtain ⟨⟨hd, ln, b2⟩, hk2⟩ : ∃ q, cutS 32 r = q := ⟨_, rfl⟩
 have hkl := cut_le hk
 have hkl2 := cut_le hk2
 have e57 := tCut_at hk hl
 have e57b := tCut_at hk2 (show r.length ≤ 100000 by omega)
 obtain ⟨o, ho⟩ : ∃ o, decO l = o := ⟨_, rfl⟩
 rw [ho]
 unfold decO decodeS at ho
 rw [hk] at ho
 simp only [hk2] at ho
 by_cases q1 : 8392 < l.length
 ·have a1 : ltIK 8392 (Int.ofNat (lenL l)) = true := by rw [lenL_eq]; exact ltIK_tt (by show (8392 : Int) < (l.length : Int); omega)
  rw [if_pos q1] at ho; simp only at ho; subst ho
  conv => arg 2; whnf
  repeat ((first | refine Ok.T ?_); conv => arg 2; whnf)
  exact Ok.done ⟨.nils, .nil _, rfl⟩
 have a1 : ltIK 8392 (Int.ofNat (lenL l)) = false := by rw [lenL_eq]; exact ltIK_ff (by show (l.length : Int) ≤ 8392; omega)
 rw [if_neg q1] at ho
 cases b with
 | false =>
  rw [if_pos (.inl rfl)] at ho; simp only at ho; subst ho
  conv => arg 2; whnf
  repeat ((first | refine Ok.F ?_ | refine Ok.N h57 h1 e57 ?_); conv => arg 2; whnf)
  exact Ok.done ⟨.nils, .nil _, rfl⟩
 | true =>
 cases q2 : isIntS a with
 | false =>
  have e58 : tIsInt [vs' a] = some (.bool false) := by unfold tIsInt; rw [sT_at (by omega), q2]
  rw [if_pos (.inr q2)] at ho; simp only at ho; subst ho
  conv => arg 2; whnf
  repeat ((first | refine Ok.F ?_ | refine Ok.N h57 h1 e57 ?_ | refine Ok.N h58 h1 e58 ?_); conv => arg 2; whnf)
  exact Ok.done ⟨.nils, .nil _, rfl⟩
 | true =>
 have e58 : tIsInt [vs' a] = some (.bool true) := by unfold tIsInt; rw [sT_at (by omega), q2]
 rw [if_neg (by simp [q2])] at ho
 have e59 : tSumS [vs' r] = some (vs' (Lib.decDigits (sumS r))) := by unfold tSumS; rw [sT_at (by omega)]
 by_cases q3 : a ≠ Lib.decDigits (sumS r)
 ·have a3 : (nB (eqBs (Lib.decDigits (sumS r)) a)) = true := by rw [eqB_f (fun e => q3 e.symm)]
  rw [if_pos q3] at ho; simp only at ho; subst ho
  conv => arg 2; whnf
  repeat ((first | refine Ok.T ?_ | refine Ok.F ?_ | refine Ok.N h57 h1 e57 ?_ | refine Ok.N h58 h1 e58 ?_ | refine Ok.N h59 h1 e59 ?_); conv => arg 2; whnf)
  exact Ok.done ⟨.nils, .nil _, rfl⟩
 have q3' : a = Lib.decDigits (sumS r) := by simpa using q3
 have a3 : (nB (eqBs (Lib.decDigits (sumS r)) a)) = false := by rw [eqB_t q3'.symm]
 rw [if_neg q3] at ho
 obtain ⟨⟨⟨kd, ns, tx⟩, ok⟩, hp⟩ : ∃ q, parseR ln = q := ⟨_, rfl⟩
 have hps := parseR_ok ln
 rw [hp] at hps
 simp only at hps
 rw [hps] at ho
 have hln : ln.length ≤ 100000 := by omega
 by_cases h0 : ns = []
 ·subst h0
  have e60 : ∀ m n, tEv (parO parseR) [vs' ln] m n = some (.tup [.agg [vi (0 : Nat), vs' kd, .nils, .nils, vs' tx], .bool ok], m, n) := fun m n => by
   rw [tEv_nil hln (by unfold parO; rw [hp])]; unfold EvO.val parO; rw [hp]
  cases b2 with
  | false =>
   rw [if_pos (.inl rfl)] at ho; simp only at ho; subst ho
   conv => arg 2; whnf
   repeat ((first | refine Ok.F ?_ | refine Ok.N h57 h1 e57 ?_ | refine Ok.N h58 h1 e58 ?_ | refine Ok.N h59 h1 e59 ?_ | refine Ok.N h57 h1 e57b ?_ | refine Ok.opt (callK_mnatE n60 h60 h1 (e60 _ _)) ?_); conv => arg 2; whnf)
   exact Ok.done ⟨.nils, .nil _, rfl⟩
  | true =>
  cases q4 : isIntS hd with
  | false =>
   have e58b : tIsInt [vs' hd] = some (.bool false) := by unfold tIsInt; rw [sT_at (by omega), q4]
   rw [if_pos (.inr q4)] at ho; simp only at ho; subst ho
   conv => arg 2; whnf
   repeat ((first | refine Ok.F ?_ | refine Ok.N h57 h1 e57 ?_ | refine Ok.N h58 h1 e58 ?_ | refine Ok.N h59 h1 e59 ?_ | refine Ok.N h57 h1 e57b ?_ | refine Ok.opt (callK_mnatE n60 h60 h1 (e60 _ _)) ?_ | refine Ok.N h58 h1 e58b ?_); conv => arg 2; whnf)
   exact Ok.done ⟨.nils, .nil _, rfl⟩
  | true =>
  have e58b : tIsInt [vs' hd] = some (.bool true) := by unfold tIsInt; rw [sT_at (by omega), q4]
  rw [if_neg (by simp [q4])] at ho
  cases ok with
  | false =>
   simp only [Bool.false_eq_true, if_false] at ho; subst ho
   conv => arg 2; whnf
   repeat ((first | refine Ok.F ?_ | refine Ok.N h57 h1 e57 ?_ | refine Ok.N h58 h1 e58 ?_ | refine Ok.N h59 h1 e59 ?_ | refine Ok.N h57 h1 e57b ?_ | refine Ok.opt (callK_mnatE n60 h60 h1 (e60 _ _)) ?_ | refine Ok.N h58 h1 e58b ?_); conv => arg 2; whnf)
   exact Ok.done ⟨.nils, .nil _, rfl⟩
  | true =>
  simp only [if_true] at ho
  have e61 := tInteger_at q4
  have hck := parseR_true hp hln (intS hd) (intS_le q4)
  have hz := chkN_zero (intS hd) ⟨kd, [], tx⟩
  by_cases q5 : checkS (intS hd) ⟨kd, [], tx⟩ = true
  ·have a5 : (nB (eqIK ((chkN (intS hd) [] tx : Nat) : Int) 0)) = false := by rw [eqIK_tt (by rw [hz.2 q5]; rfl)]
   rw [if_pos q5] at ho; simp only at ho; subst ho
   conv => arg 2; whnf
   repeat ((first | refine Ok.F ?_ | refine Ok.N h57 h1 e57 ?_ | refine Ok.N h58 h1 e58 ?_ | refine Ok.N h59 h1 e59 ?_ | refine Ok.N h57 h1 e57b ?_ | refine Ok.opt (callK_mnatE n60 h60 h1 (e60 _ _)) ?_ | refine Ok.N h58 h1 e58b ?_ | refine Ok.N h61 h1 e61 ?_ | refine Ok.opt (callK_mnatE n62 h62 h1 (tChk_at rfl hck)) ?_); conv => arg 2; whnf)
   exact Ok.done ⟨_, .nil _, rfl⟩
  ·have a5 : (nB (eqIK ((chkN (intS hd) [] tx : Nat) : Int) 0)) = true := by
    rw [eqIK_ff (by intro e; exact q5 (hz.1 (Int.ofNat_eq_zero.1 e)))]
   rw [if_neg q5] at ho; simp only at ho; subst ho
   conv => arg 2; whnf
   repeat ((first | refine Ok.T ?_ | refine Ok.F ?_ | refine Ok.N h57 h1 e57 ?_ | refine Ok.N h58 h1 e58 ?_ | refine Ok.N h59 h1 e59 ?_ | refine Ok.N h57 h1 e57b ?_ | refine Ok.opt (callK_mnatE n60 h60 h1 (e60 _ _)) ?_ | refine Ok.N h58 h1 e58b ?_ | refine Ok.N h61 h1 e61 ?_ | refine Ok.opt (callK_mnatE n62 h62 h1 (tChk_at rfl hck)) ?_); conv => arg 2; whnf)
   exact Ok.done ⟨.nils, .nil _, rfl⟩
 ·skip
  have e60 : ∀ m n, n / 8 / 8 / 8 / 8 / 8 / 8 = 0 → tEv (parO parseR) [vs' ln] m n = some (.tup [.agg [vi (0 : Nat), vs' kd, .sl n 0 ns.length none 1, .nils, vs' tx], .bool ok], setM m n (some (.cells (ns.map vs') 9)), n + 1) := fun m n hi => by
   rw [tEv_set hln (by unfold parO; rw [hp]; exact h0) m n hi]; unfold EvO.val parO; rw [hp]
  cases b2 with
  | false =>
   rw [if_pos (.inl rfl)] at ho; simp only at ho; subst ho
   conv => arg 2; whnf
   repeat ((first | refine Ok.F ?_ | refine Ok.N h57 h1 e57 ?_ | refine Ok.N h58 h1 e58 ?_ | refine Ok.N h59 h1 e59 ?_ | refine Ok.N h57 h1 e57b ?_ | refine Ok.opt (callK_mnatE n60 h60 h1 (e60 _ _ rfl)) ?_); conv => arg 2; whnf)
   exact Ok.done ⟨.nils, .nil _, rfl⟩
  | true =>
  cases q4 : isIntS hd with
  | false =>
   have e58b : tIsInt [vs' hd] = some (.bool false) := by unfold tIsInt; rw [sT_at (by omega), q4]
   rw [if_pos (.inr q4)] at ho; simp only at ho; subst ho
   conv => arg 2; whnf
   repeat ((first | refine Ok.F ?_ | refine Ok.N h57 h1 e57 ?_ | refine Ok.N h58 h1 e58 ?_ | refine Ok.N h59 h1 e59 ?_ | refine Ok.N h57 h1 e57b ?_ | refine Ok.opt (callK_mnatE n60 h60 h1 (e60 _ _ rfl)) ?_ | refine Ok.N h58 h1 e58b ?_); conv => arg 2; whnf)
   exact Ok.done ⟨.nils, .nil _, rfl⟩
  | true =>
  have e58b : tIsInt [vs' hd] = some (.bool true) := by unfold tIsInt; rw [sT_at (by omega), q4]
  rw [if_neg (by simp [q4])] at ho
  cases ok with
  | false =>
   simp only [Bool.false_eq_true, if_false] at ho; subst ho
   conv => arg 2; whnf
   repeat ((first | refine Ok.F ?_ | refine Ok.N h57 h1 e57 ?_ | refine Ok.N h58 h1 e58 ?_ | refine Ok.N h59 h1 e59 ?_ | refine Ok.N h57 h1 e57b ?_ | refine Ok.opt (callK_mnatE n60 h60 h1 (e60 _ _ rfl)) ?_ | refine Ok.N h58 h1 e58b ?_); conv => arg 2; whnf)
   exact Ok.done ⟨.nils, .nil _, rfl⟩
  | true =>
  simp only [if_true] at ho
  have e61 := tInteger_at q4
  have hck := parseR_true hp hln (intS hd) (intS_le q4)
  obtain ⟨hc1, hc2, hc3, hc4, hc5, tt, hc6, hc7⟩ := hck
  have hlen : ns.length = 1 ∨ ns.length = 2 := by
   have := form_cases hc6
   have : ns.length ≠ 0 := fun e => h0 (List.length_eq_zero_iff.1 e)
   simp only [pMi] at *
   omega
  have hck : ChkOk (intS hd : Nat) kd ns tx := ⟨hc1, hc2, hc3, hc4, hc5, tt, hc6, hc7⟩
  match ns, h0, hlen with
  | [a1n], h0, _ =>
   have e60 : ∀ m n, n / 8 / 8 / 8 / 8 / 8 / 8 = 0 → tEv (parO parseR) [vs' ln] m n = some (.tup [.agg [vi (0 : Nat), vs' kd, .sl n 0 1 none 1, .nils, vs' tx], .bool true], setM m n (some (.cells [vs' a1n] 9)), n + 1) := e60
   have hz := chkN_zero (intS hd) ⟨kd, [a1n], tx⟩
   by_cases q5 : checkS (intS hd) ⟨kd, [a1n], tx⟩ = true
   ·have a5 : (nB (eqIK ((chkN (intS hd) [a1n] tx : Nat) : Int) 0)) = false := by rw [eqIK_tt (by rw [hz.2 q5]; rfl)]
    rw [if_pos q5] at ho; simp only at ho; subst ho
    conv => arg 2; whnf
    repeat ((first | refine Ok.F ?_ | refine Ok.N h57 h1 e57 ?_ | refine Ok.N h58 h1 e58 ?_ | refine Ok.N h59 h1 e59 ?_ | refine Ok.N h57 h1 e57b ?_ | refine Ok.opt (callK_mnatE n60 h60 h1 (e60 _ _ rfl)) ?_ | refine Ok.N h58 h1 e58b ?_ | refine Ok.N h61 h1 e61 ?_ | refine Ok.opt (callK_mnatE n62 h62 h1 (tChk_at rfl hck)) ?_); conv => arg 2; whnf)
    exact Ok.done ⟨_, .inr ⟨by simp, _, rfl, rfl⟩, rfl⟩
   ·have a5 : (nB (eqIK ((chkN (intS hd) [a1n] tx : Nat) : Int) 0)) = true := by
     rw [eqIK_ff (by intro e; exact q5 (hz.1 (Int.ofNat_eq_zero.1 e)))]
    rw [if_neg q5] at ho; simp only at ho; subst ho
    conv => arg 2; whnf
    repeat ((first | refine Ok.T ?_ | refine Ok.F ?_ | refine Ok.N h57 h1 e57 ?_ | refine Ok.N h58 h1 e58 ?_ | refine Ok.N h59 h1 e59 ?_ | refine Ok.N h57 h1 e57b ?_ | refine Ok.opt (callK_mnatE n60 h60 h1 (e60 _ _ rfl)) ?_ | refine Ok.N h58 h1 e58b ?_ | refine Ok.N h61 h1 e61 ?_ | refine Ok.opt (callK_mnatE n62 h62 h1 (tChk_at rfl hck)) ?_); conv => arg 2; whnf)
    exact Ok.done ⟨.nils, .nil _, rfl⟩
  | [a1n, b1n], h0, _ =>
   have e60 : ∀ m n, n / 8 / 8 / 8 / 8 / 8 / 8 = 0 → tEv (parO parseR) [vs' ln] m n = some (.tup [.agg [vi (0 : Nat), vs' kd, .sl n 0 2 none 1, .nils, vs' tx], .bool true], setM m n (some (.cells [vs' a1n, vs' b1n] 9)), n + 1) := e60
   have hz := chkN_zero (intS hd) ⟨kd, [a1n, b1n], tx⟩
   by_cases q5 : checkS (intS hd) ⟨kd, [a1n, b1n], tx⟩ = true
   ·have a5 : (nB (eqIK ((chkN (intS hd) [a1n, b1n] tx : Nat) : Int) 0)) = false := by rw [eqIK_tt (by rw [hz.2 q5]; rfl)]
    rw [if_pos q5] at ho; simp only at ho; subst ho
    conv => arg 2; whnf
    repeat ((first | refine Ok.F ?_ | refine Ok.N h57 h1 e57 ?_ | refine Ok.N h58 h1 e58 ?_ | refine Ok.N h59 h1 e59 ?_ | refine Ok.N h57 h1 e57b ?_ | refine Ok.opt (callK_mnatE n60 h60 h1 (e60 _ _ rfl)) ?_ | refine Ok.N h58 h1 e58b ?_ | refine Ok.N h61 h1 e61 ?_ | refine Ok.opt (callK_mnatE n62 h62 h1 (tChk_at rfl hck)) ?_); conv => arg 2; whnf)
    exact Ok.done ⟨_, .inr ⟨by simp, _, rfl, rfl⟩, rfl⟩
   ·have a5 : (nB (eqIK ((chkN (intS hd) [a1n, b1n] tx : Nat) : Int) 0)) = true := by
     rw [eqIK_ff (by intro e; exact q5 (hz.1 (Int.ofNat_eq_zero.1 e)))]
    rw [if_neg q5] at ho; simp only at ho; subst ho
    conv => arg 2; whnf
    repeat ((first | refine Ok.T ?_ | refine Ok.F ?_ | refine Ok.N h57 h1 e57 ?_ | refine Ok.N h58 h1 e58 ?_ | refine Ok.N h59 h1 e59 ?_ | refine Ok.N h57 h1 e57b ?_ | refine Ok.opt (callK_mnatE n60 h60 h1 (e60 _ _ rfl)) ?_ | refine Ok.N h58 h1 e58b ?_ | refine Ok.N h61 h1 e61 ?_ | refine Ok.opt (callK_mnatE n62 h62 h1 (tChk_at rfl hck)) ?_); conv => arg 2; whnf)
    exact Ok.done ⟨.nils, .nil _, rfl⟩
end
end Go.Fm
end
