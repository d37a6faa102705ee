import Derived.Test.YtciondmibomehaaGreatDoorKA
import Derived.Shelf.Strconv.Itoa3
import Derived.Shelf.Strconv.Atoi
import Derived.Lib.AtoiErrMem
set_option maxRecDepth 100000
set_option linter.unusedSectionVars false
set_option linter.unusedVariables false
set_option linter.unusedSimpArgs false
set_option linter.constructorNameAsVariable false
noncomputable section
namespace Go.Proofs
open Go.Shelf
def Tryz.lays171_ren : Go.Shelf.Ren := ⟨fun | 171 => 77 | 243 => 144 | 246 => 228 | 283 => 327 | 284 => 328 | 285 => 329 | 286 => 330 | 129 => 336 | 317 => 401 | 318 => 402 | 319 => 403 | 320 => 404 | 337 => 473 | 338 => 474 | n => n, fun | 3 => 3 | 9 => 9 | 2 => 2 | 4 => 4 | 171 => 446 | 0 => 0 | 53 => 249 | 37 => 123 | 5 => 5 | 173 => 448 | 212 => 539 | 51 => 425 | 20 => 20 | 213 => 540 | 46 => 340 | 232 => 704 | 233 => 705 | n => n, fun | 17 => 5 | 18 => 8 | 19 => 9 | n => n⟩
theorem Tryz.lays171 : Go.Proofs.LaysM.n171 Tryz.prog Tryz.lays171_ren := {
 mixed := by kernel_rfl
 f129 := Tryz.func336.trans (congrArg some (by kernel_rfl))
 f171 := Tryz.func77.trans (congrArg some (by kernel_rfl))
 f243 := Tryz.func144.trans (congrArg some (by kernel_rfl))
 f246 := Tryz.func228.trans (congrArg some (by kernel_rfl))
 f283 := Tryz.func327.trans (congrArg some (by kernel_rfl))
 f284 := Tryz.func328.trans (congrArg some (by kernel_rfl))
 f285 := Tryz.func329.trans (congrArg some (by kernel_rfl))
 f286 := Tryz.func330.trans (congrArg some (by kernel_rfl))
 f317 := Tryz.func401.trans (congrArg some (by kernel_rfl))
 f318 := Tryz.func402.trans (congrArg some (by kernel_rfl))
 f319 := Tryz.func403.trans (congrArg some (by kernel_rfl))
 f320 := Tryz.func404.trans (congrArg some (by kernel_rfl))
 f337 := Tryz.func473.trans (congrArg some (by kernel_rfl))
 f338 := Tryz.func474.trans (congrArg some (by kernel_rfl))
 t0 := Tryz.underlying0
 a0 := Tryz.isAgg0
 z0 := Tryz.sizeOf0
 v0 := Tryz.zeroValue0
 t2 := Tryz.underlying2
 a2 := Tryz.isAgg2
 z2 := Tryz.sizeOf2
 v2 := Tryz.zeroValue2
 t3 := Tryz.underlying3
 a3 := Tryz.isAgg3
 z3 := Tryz.sizeOf3
 v3 := Tryz.zeroValue3
 t4 := Tryz.underlying4
 a4 := Tryz.isAgg4
 z4 := Tryz.sizeOf4
 v4 := Tryz.zeroValue4
 t5 := Tryz.underlying5
 a5 := Tryz.isAgg5
 z5 := Tryz.sizeOf5
 v5 := Tryz.zeroValue5
 t9 := Tryz.underlying9
 a9 := Tryz.isAgg9
 z9 := Tryz.sizeOf9
 v9 := Tryz.zeroValue9
 t20 := Tryz.underlying20
 a20 := Tryz.isAgg20
 z20 := Tryz.sizeOf20
 v20 := Tryz.zeroValue20
 t37 := Tryz.underlying123
 a37 := Tryz.isAgg123
 z37 := Tryz.sizeOf123
 v37 := Tryz.zeroValue123
 t46 := Tryz.underlying340
 a46 := Tryz.isAgg340
 z46 := Tryz.sizeOf340
 v46 := Tryz.zeroValue340
 t51 := Tryz.underlying425
 a51 := Tryz.isAgg425
 z51 := Tryz.sizeOf425
 v51 := Tryz.zeroValue425
 t53 := Tryz.underlying249
 a53 := Tryz.isAgg249
 z53 := Tryz.sizeOf249
 v53 := Tryz.zeroValue249
 t171 := Tryz.underlying446
 a171 := Tryz.isAgg446
 z171 := Tryz.sizeOf446
 v171 := Tryz.zeroValue446
 t173 := Tryz.underlying448
 a173 := Tryz.isAgg448
 z173 := Tryz.sizeOf448
 v173 := Tryz.zeroValue448
 t212 := Tryz.underlying539
 a212 := Tryz.isAgg539
 z212 := Tryz.sizeOf539
 v212 := Tryz.zeroValue539
 t213 := Tryz.underlying540
 a213 := Tryz.isAgg540
 z213 := Tryz.sizeOf540
 t232 := Tryz.underlying704
 a232 := Tryz.isAgg704
 z232 := Tryz.sizeOf704
 v232 := Tryz.zeroValue704
 t233 := Tryz.underlying705
 a233 := Tryz.isAgg705
 z233 := Tryz.sizeOf705
 v233 := Tryz.zeroValue705
 g17 := by kernel_rfl
 g18 := by kernel_rfl
 g19 := by kernel_rfl
 i0 := by kernel_rfl
 i2 := by kernel_rfl
 i3 := by kernel_rfl
 i4 := by kernel_rfl
 i5 := by kernel_rfl
 i9 := by kernel_rfl
 i20 := by kernel_rfl
 i37 := by kernel_rfl
 i46 := by kernel_rfl
 i51 := by kernel_rfl
 i53 := by kernel_rfl
 i171 := by kernel_rfl
 i173 := by kernel_rfl
 i212 := by kernel_rfl
 i232 := by kernel_rfl
 i233 := by kernel_rfl
 m17 := by kernel_rfl
 m18 := by kernel_rfl
 m19 := by kernel_rfl }
def Tryz.lays172_ren : Go.Shelf.Ren := ⟨fun | 172 => 76 | 244 => 142 | 245 => 143 | 247 => 223 | 279 => 224 | 280 => 225 | 281 => 226 | 282 => 227 | 287 => 324 | 316 => 325 | 171 => 77 | 205 => 326 | 321 => 399 | 322 => 400 | 243 => 144 | 246 => 228 | 283 => 327 | 284 => 328 | 285 => 329 | 286 => 330 | 129 => 336 | 317 => 401 | 318 => 402 | 319 => 403 | 320 => 404 | 337 => 473 | 338 => 474 | n => n, fun | 9 => 9 | 3 => 3 | 75 => 166 | 76 => 167 | 4 => 4 | 5 => 5 | 167 => 341 | 37 => 123 | 0 => 0 | 85 => 342 | 2 => 2 | 168 => 344 | 53 => 249 | 175 => 441 | 46 => 340 | 210 => 444 | 127 => 203 | 145 => 537 | 143 => 535 | 21 => 21 | 171 => 446 | 173 => 448 | 212 => 539 | 51 => 425 | 20 => 20 | 213 => 540 | 232 => 704 | 233 => 705 | 80 => 79 | n => n, fun | 15 => 1 | 16 => 2 | 17 => 5 | 18 => 8 | 19 => 9 | n => n⟩
theorem Tryz.lays172 : Go.Proofs.Lays.n172 Tryz.prog Tryz.lays172_ren := {
 mixed := by kernel_rfl
 f129 := Tryz.func336.trans (congrArg some (by kernel_rfl))
 f171 := Tryz.func77.trans (congrArg some (by kernel_rfl))
 f172 := Tryz.func76.trans (congrArg some (by kernel_rfl))
 f205 := Tryz.func326.trans (congrArg some (by kernel_rfl))
 f243 := Tryz.func144.trans (congrArg some (by kernel_rfl))
 f244 := Tryz.func142.trans (congrArg some (by kernel_rfl))
 f245 := Tryz.func143.trans (congrArg some (by kernel_rfl))
 f246 := Tryz.func228.trans (congrArg some (by kernel_rfl))
 f247 := Tryz.func223.trans (congrArg some (by kernel_rfl))
 f279 := Tryz.func224.trans (congrArg some (by kernel_rfl))
 f280 := Tryz.func225.trans (congrArg some (by kernel_rfl))
 f281 := Tryz.func226.trans (congrArg some (by kernel_rfl))
 f282 := Tryz.func227.trans (congrArg some (by kernel_rfl))
 f283 := Tryz.func327.trans (congrArg some (by kernel_rfl))
 f284 := Tryz.func328.trans (congrArg some (by kernel_rfl))
 f285 := Tryz.func329.trans (congrArg some (by kernel_rfl))
 f286 := Tryz.func330.trans (congrArg some (by kernel_rfl))
 f287 := Tryz.func324.trans (congrArg some (by kernel_rfl))
 f316 := Tryz.func325.trans (congrArg some (by kernel_rfl))
 f317 := Tryz.func401.trans (congrArg some (by kernel_rfl))
 f318 := Tryz.func402.trans (congrArg some (by kernel_rfl))
 f319 := Tryz.func403.trans (congrArg some (by kernel_rfl))
 f320 := Tryz.func404.trans (congrArg some (by kernel_rfl))
 f321 := Tryz.func399.trans (congrArg some (by kernel_rfl))
 f322 := Tryz.func400.trans (congrArg some (by kernel_rfl))
 f337 := Tryz.func473.trans (congrArg some (by kernel_rfl))
 f338 := Tryz.func474.trans (congrArg some (by kernel_rfl))
 t0 := Tryz.underlying0
 a0 := Tryz.isAgg0
 z0 := Tryz.sizeOf0
 v0 := Tryz.zeroValue0
 t2 := Tryz.underlying2
 a2 := Tryz.isAgg2
 z2 := Tryz.sizeOf2
 v2 := Tryz.zeroValue2
 t3 := Tryz.underlying3
 a3 := Tryz.isAgg3
 z3 := Tryz.sizeOf3
 v3 := Tryz.zeroValue3
 t4 := Tryz.underlying4
 a4 := Tryz.isAgg4
 z4 := Tryz.sizeOf4
 v4 := Tryz.zeroValue4
 t5 := Tryz.underlying5
 a5 := Tryz.isAgg5
 z5 := Tryz.sizeOf5
 v5 := Tryz.zeroValue5
 t9 := Tryz.underlying9
 a9 := Tryz.isAgg9
 z9 := Tryz.sizeOf9
 v9 := Tryz.zeroValue9
 t20 := Tryz.underlying20
 a20 := Tryz.isAgg20
 z20 := Tryz.sizeOf20
 v20 := Tryz.zeroValue20
 t21 := Tryz.underlying21
 a21 := Tryz.isAgg21
 z21 := Tryz.sizeOf21
 v21 := Tryz.zeroValue21
 t37 := Tryz.underlying123
 a37 := Tryz.isAgg123
 z37 := Tryz.sizeOf123
 v37 := Tryz.zeroValue123
 t46 := Tryz.underlying340
 a46 := Tryz.isAgg340
 z46 := Tryz.sizeOf340
 v46 := Tryz.zeroValue340
 t51 := Tryz.underlying425
 a51 := Tryz.isAgg425
 z51 := Tryz.sizeOf425
 v51 := Tryz.zeroValue425
 t53 := Tryz.underlying249
 a53 := Tryz.isAgg249
 z53 := Tryz.sizeOf249
 v53 := Tryz.zeroValue249
 t75 := Tryz.underlying166
 a75 := Tryz.isAgg166
 z75 := Tryz.sizeOf166
 v75 := Tryz.zeroValue166
 t76 := Tryz.underlying167
 a76 := Tryz.isAgg167
 z76 := Tryz.sizeOf167
 v76 := Tryz.zeroValue167
 t85 := Tryz.underlying342
 a85 := Tryz.isAgg342
 z85 := Tryz.sizeOf342
 v85 := Tryz.zeroValue342
 t127 := Tryz.underlying203
 a127 := Tryz.isAgg203
 z127 := Tryz.sizeOf203
 v127 := Tryz.zeroValue203
 t143 := Tryz.underlying535
 a143 := Tryz.isAgg535
 z143 := Tryz.sizeOf535
 v143 := Tryz.zeroValue535
 t145 := Tryz.underlying537
 a145 := Tryz.isAgg537
 z145 := Tryz.sizeOf537
 v145 := Tryz.zeroValue537
 t167 := Tryz.underlying341
 a167 := Tryz.isAgg341
 z167 := Tryz.sizeOf341
 v167 := Tryz.zeroValue341
 t168 := Tryz.underlying344
 a168 := Tryz.isAgg344
 z168 := Tryz.sizeOf344
 v168 := Tryz.zeroValue344
 t171 := Tryz.underlying446
 a171 := Tryz.isAgg446
 z171 := Tryz.sizeOf446
 v171 := Tryz.zeroValue446
 t173 := Tryz.underlying448
 a173 := Tryz.isAgg448
 z173 := Tryz.sizeOf448
 v173 := Tryz.zeroValue448
 t175 := Tryz.underlying441
 a175 := Tryz.isAgg441
 z175 := Tryz.sizeOf441
 v175 := Tryz.zeroValue441
 t210 := Tryz.underlying444
 a210 := Tryz.isAgg444
 z210 := Tryz.sizeOf444
 v210 := Tryz.zeroValue444
 t212 := Tryz.underlying539
 a212 := Tryz.isAgg539
 z212 := Tryz.sizeOf539
 v212 := Tryz.zeroValue539
 t213 := Tryz.underlying540
 a213 := Tryz.isAgg540
 z213 := Tryz.sizeOf540
 t232 := Tryz.underlying704
 a232 := Tryz.isAgg704
 z232 := Tryz.sizeOf704
 v232 := Tryz.zeroValue704
 t233 := Tryz.underlying705
 a233 := Tryz.isAgg705
 z233 := Tryz.sizeOf705
 v233 := Tryz.zeroValue705
 g15 := by kernel_rfl
 g16 := by kernel_rfl
 g17 := by kernel_rfl
 g18 := by kernel_rfl
 g19 := by kernel_rfl }
end Go.Proofs
namespace Go.Fm
open Go.Proofs Go.RowKit
theorem ns_calls [Ctx] {P : Program} {f : FuncId} {F : List V → Option V} (hent : ∀ args w, (callFunc f args).run P w = .ok (.enter f args) w)
  (h : ∀ vs v, F vs = some v → ∀ β kn args w, VA β kn vs args → GL w → Calls P f args w fun e w' => ∃ x, e = .returned x ∧ VR β kn v x ∧ Below w.heap.size w w') : NSpec P f F := by
 intro vs v hv β kn args w hva hgl r o a next Q hnext
 rw [hent args w]
 refine ⟨fun h => by simp [FW] at h, callsIn_FW.2 ((h vs v hv β kn args w hva hgl).mono ?_)⟩
 rintro e w' ⟨x, rfl, hx, hb⟩
 exact hnext x w' hx hb
theorem below_drew (w : World) (k : Nat) (os : Array Obj) : Below w.heap.size w (Go.Sort.grow (w.drewN k) os) :=
 ⟨rfl, rfl, rfl, by simp [Go.Sort.grow, World.drewN], fun i hi => by simp [Go.Sort.grow, World.drewN, Array.getElem?_append_left hi]⟩
def decK : Nat → Nat → List UInt8 → List UInt8
 | 0, _, acc => acc
 | k + 1, u, acc => if u < 10 then UInt8.ofNat (48 + u) :: acc else decK k (u / 10) (UInt8.ofNat (48 + u % 10) :: acc)
theorem decK_eq : ∀ (k u : Nat) (acc : List UInt8), u < 10 ^ (k + 1) → decK (k + 1) u acc = Lib.decDigits u ++ acc
 | 0, u, acc, h => by
  rw [Lib.decDigits, dif_pos (by simpa using h)]
  simp [decK, show u < 10 by simpa using h]
 | k + 1, u, acc, h => by
  rw [Lib.decDigits]
  unfold decK
  by_cases hu : u < 10
  ·rw [if_pos hu, dif_pos hu]; rfl
  ·rw [if_neg hu, dif_neg hu, decK_eq k (u / 10) _ (by rw [Nat.pow_succ] at h; omega)]
   simp
def itoaK (n : Int) : List UInt8 := match n with
 | .ofNat u => decK 20 u []
 | .negSucc u => 45 :: decK 20 (u + 1) []
theorem itoaK_eq {n : Int} (h1 : -9223372036854775808 ≤ n) (h2 : n ≤ 9223372036854775807) : itoaK n = Lib.itoa n := by
 unfold Lib.itoa
 cases n with
 | ofNat u =>
  have hu : u ≤ 9223372036854775807 := by have : (u : Int) ≤ 9223372036854775807 := h2; omega
  rw [if_neg (by show ¬ ((u : Int) < 0); omega)]
  show decK 20 u [] = Lib.decDigits u
  rw [decK_eq 19 u [] (by omega), List.append_nil]
 | negSucc u =>
  have hu : u ≤ 9223372036854775807 := by omega
  rw [if_pos (by omega)]
  show 45 :: decK 20 (u + 1) [] = 45 :: Lib.decDigits (u + 1)
  rw [decK_eq 19 (u + 1) [] (by omega), List.append_nil]
def tItoa : List V → Option V
 | [.int .i64 x] => bif leI (-9223372036854775808) x && leI x 9223372036854775807 then some (vs' (itoaK x)) else none
 | _ => none
def tAtoiW : List V → Option V
 | [.str s] => bif Nat.ble s.data.toList.length 18 then (Lib.atoi s.data.toList).map fun n => .tup [.int .i64 n, .nili] else none
 | _ => none
theorem ns_one {P : Program} [Ctx] {f : FuncId} {F G : List V → Option V} (h : NSpec P f F) (hF : ∀ vs v, G vs = some v → F vs = some v) : NSpec P f G := fun vs v hv => h vs v (hF vs v hv)
section
variable [Gl]
def powN : String := ((Tryz.prog.globals[5]?).map (·.name)).getD ""
def PowOk : Prop := ∀ w : World, GL w → Lib.TabIs Tryz.prog w powN .u64 Lib.pow10Tab
theorem pow_lit {w : World} {s : String} (h : powN = s) (h2 : Lib.TabIs Tryz.prog w powN .u64 Lib.pow10Tab) : Lib.TabIs Tryz.prog w s .u64 Lib.pow10Tab := h ▸ h2
theorem ent69 : ∀ args w, (callFunc 77 args).run Tryz.prog w = .ok (.enter 77 args) w := enters_of Tryz.lays171.f171 (by kernel_rfl) rfl
theorem ent126 : ∀ args w, (callFunc 76 args).run Tryz.prog w = .ok (.enter 76 args) w := enters_of Tryz.lays172.f172 (by kernel_rfl) rfl
theorem nsItoa (hp : PowOk) : NSpec Tryz.prog 77 tItoa := ns_calls ent69 fun vs v hF β kn args w hva hgl => by
 unfold tItoa at hF
 split at hF
 ·rename_i x
  obtain ⟨h1, h2⟩ := bif_none hF
  injection h2 with h2; subst h2
  simp only [Bool.and_eq_true, leI, decide_eq_true_eq] at h1
  obtain ⟨y, rfl, hy⟩ := va1 hva
  cases hy with
  | int k n =>
  refine (Any.strconv_Itoa Tryz.lays171 x h1.1 h1.2 w (pow_lit (by kernel_rfl) (hp w hgl))).mono ?_
  rintro e w' ⟨rfl, k, os, rfl⟩
  refine ⟨_, rfl, ?_, below_drew w k os⟩
  rw [itoaK_eq h1.1 h1.2]
  exact .str _
 ·cases hF
theorem nsAtoi : NSpec Tryz.prog 76 tAtoiW := ns_calls ent126 fun vs v hF β kn args w hva hgl => by
 unfold tAtoiW at hF
 split at hF
 ·rename_i s
  obtain ⟨h1, h2⟩ := bif_none hF
  simp only [oMs] at h2
  obtain ⟨n, hn, rfl⟩ := h2
  have hl : s.size ≤ 18 := by have := nLb h1; exact this
  obtain ⟨y, rfl, hy⟩ := va1 hva
  cases hy with
  | str s =>
  refine (Any.strconv_Atoi Tryz.lays172 s n hl hn w).mono ?_
  rintro e w' ⟨rfl, t, rfl⟩
  refine ⟨_, rfl, ?_, Lib.bytesWorld_below w _ t⟩
  refine .tup _ _ rfl fun i v x e1 e2 => ?_
  match i with
  | 0 => simp at e1 e2; subst e1 e2; exact .int _ _
  | 1 => simp at e1 e2; subst e1 e2; exact .nili
  | i + 2 => simp at e1
 ·cases hF
theorem nsP69 (hp : PowOk) : NSpec Tryz.prog 77 tFromInt := ns_one (nsItoa hp) fun vs v h => by
 unfold tFromInt at h
 split at h
 ·rename_i x
  split at h
  ·rename_i hx
   injection h with h; subst h
   have h1 : leI (-9223372036854775808) x = true := decide_eq_true (by omega)
   have h2 : leI x 9223372036854775807 = true := decide_eq_true (by omega)
   show (bif leI (-9223372036854775808) x && leI x 9223372036854775807 then some (vs' (itoaK x)) else none) = _
   rw [h1, h2, itoaK_eq (by omega) (by omega)]
   unfold Lib.itoa
   rw [if_neg (by omega)]
   rfl
  ·cases h
 ·cases h
theorem decFrom_int : ∀ (l : Bs) (a : Nat), l.all digB = true → Lib.decFrom a l = some (l.foldl (fun n c => 10 * n + (c.toNat - 48)) a)
 | [], a, _ => rfl
 | c :: r, a, h => by
  simp only [List.all_cons, Bool.and_eq_true, digB, decide_eq_true_eq] at h
  have e : Lib.digitVal c = some (c.toNat - 48) := by unfold Lib.digitVal; rw [if_pos h.1]
  unfold Lib.decFrom
  rw [e]
  simp only [List.foldl_cons]
  rw [decFrom_int r _ h.2]
  congr 2
  omega
theorem atoi_int {l : Bs} (h : isIntS l = true) : Lib.atoi l = some (intS l : Int) ∧ l.length ≤ 9 := by
 unfold isIntS at h
 simp only [Bool.and_eq_true, decide_eq_true_eq] at h
 obtain ⟨⟨⟨h1, h2⟩, h3⟩, _⟩ := h
 refine ⟨?_, h2⟩
 cases l with
 | nil => simp at h1
 | cons c r =>
  have h3' := h3
  simp only [List.all_cons, Bool.and_eq_true, digB, decide_eq_true_eq] at h3'
  have n1 : (c == 45) = false := by
   rw [beq_eq_false_iff_ne]; rintro rfl
   have := h3'.1.1
   simp at this
  have n2 : (c == 43) = false := by
   rw [beq_eq_false_iff_ne]; rintro rfl
   have := h3'.1.1
   simp at this
  simp only [Lib.atoi, n1, n2, Bool.false_eq_true, if_false, Lib.decNat, List.isEmpty_cons]
  rw [decFrom_int _ _ h3]
  rfl
theorem nsP126 : NSpec Tryz.prog 76 tAtoi := ns_one nsAtoi fun vs v h => by
 unfold tAtoi at h
 split at h
 ·rename_i s
  split at h
  ·rename_i hs
   injection h with h; subst h
   obtain ⟨h1, h2⟩ := atoi_int hs
   show (bif Nat.ble s.data.toList.length 18 then (Lib.atoi s.data.toList).map fun n => V.tup [.int .i64 n, .nili] else none) = _
   rw [Nat.ble_eq_true_of_le (show s.data.toList.length ≤ 18 by omega), h1]
   rfl
  ·cases h
 ·cases h
end
end Go.Fm
end
