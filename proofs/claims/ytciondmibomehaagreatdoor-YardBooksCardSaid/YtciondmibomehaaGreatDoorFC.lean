import Derived.Test.YtciondmibomehaaGreatDoorFB
set_option maxRecDepth 100000
set_option linter.unusedSectionVars false
set_option linter.unusedVariables false
set_option linter.unusedSimpArgs false
set_option linter.constructorNameAsVariable false
noncomputable section
namespace Go.Fm
inductive RO where
 | p (q : PO)
 | m (q : MO)
 | call (f : FuncId) (xs : List X)
 | callv (x : X) (xs : List X)
 | inv (tbl : List (TypeId × FuncId)) (x : X) (xs : List X)
 | bad
structure ROp where
 dst : Option Nat
 g : Option (Nat × Bool)
 op : RO
structure St where
 t : Tr 3 V
 m : Mem
 n : Nat
inductive Cl where
 | f (f : FuncId)
 | y (id : Nat)
abbrev CE := Cl → List V → Mem → Nat → Option (V × Mem × Nat)
def putT (t : Tr 3 V) (dst : Option Nat) (v : V) : Option (Tr 3 V) :=
 match dst with
 | none => some t
 | some d => Tr.set fuel t d (some v)
def evOp (call : CE) (o : RO) (s : St) : Option (V × Mem × Nat) :=
 match o with
 | .p q => (evP q s.t).map fun v => (v, s.m, s.n)
 | .m q => evM q s.t s.m s.n
 | .call f xs => call (.f f) (xs.map (val s.t)) s.m s.n
 | .callv x xs => match val s.t x with
  | .fn (.func f) first caps => call (.f f) (first ++ xs.map (val s.t) ++ caps) s.m s.n
  | .yl id => call (.y id) (xs.map (val s.t)) s.m s.n
  | _ => none
 | .inv tbl x xs => match val s.t x with
  | .ifc t v => match tbl.lookup t with
   | some f => call (.f f) (v :: xs.map (val s.t)) s.m s.n
   | none => none
  | _ => none
 | .bad => none
def doOp (call : CE) (o : ROp) (s : St) : Option St := (evOp call o.op s).bind fun (v, m, n) => (putT s.t o.dst v).map fun t => ⟨t, m, n⟩
def runOp (call : CE) (o : ROp) (s : St) : Option St :=
 match o.g with
 | none => doOp call o s
 | some (d, want) => match s.t.get d with
  | some (.bool b) => bif b == want then doOp call o s else (putT s.t o.dst (.tup [])).map fun t => { s with t }
  | some (.tup []) => (putT s.t o.dst (.tup [])).map fun t => { s with t }
  | _ => none
def runOps (call : CE) : List ROp → St → Option St
 | [], s => some s
 | o :: r, s => match runOp call o s with
  | some s => runOps call r s
  | none => none
def methOk (P : Program) (t : TypeId) (name : String) : Option FuncId := (P.info? t).bind fun i => (i.methods.find? (·.name == name)).bind fun m => bif m.path.isEmpty then match m.func, P.underlying t with
 | some (f, true), some (.pointer _) => some f
 | some (_, false), some (.pointer _) => none
 | some (f, false), some _ => some f
 | _, _ => none
 else none
def methTbl [CtxV] (P : Program) (name : String) : List TypeId → List (TypeId × FuncId)
 | [] => []
 | t :: r => match methOk P t name with
  | some f => (t, f) :: methTbl P name r
  | none => methTbl P name r
def resRO [CtxV] (P : Program) (o : Oper) : Option RO :=
 match resP P o with
 | some q => some (.p q)
 | none => match resM P o with
  | some q => some (.m q)
  | none => match o.op with
   | .call c => match c.callee with
    | .value (.func f) => some (.call f (c.args.toList.map resX))
    | .value x => some (.callv (resX x) (c.args.toList.map resX))
    | .invoke x name => some (.inv (methTbl P name (CtxV.meths name)) (resX x) (c.args.toList.map resX))
    | _ => some .bad
   | _ => some .bad
def resDst (N : Nat) : Option Tmp → Option (Option Nat)
 | none => some none
 | some d => bif Nat.blt d N then some (some d) else none
def resG (ops : Array Oper) : Option (Nat × Bool) → Option (Option (Nat × Bool))
 | none => some none
 | some (j, want) => ((ops[j]?).bind (·.dst)).map fun d => some (d, want)
def resOp [CtxV] (P : Program) (N : Nat) (ops : Array Oper) (o : Oper) : Option ROp :=
 (resDst N o.dst).bind fun d => (resG ops o.guard).bind fun g => (resRO P o).map fun op => ⟨d, g, op⟩
def resOps [CtxV] (P : Program) (N : Nat) (ops : Array Oper) : List Oper → Option (List ROp)
 | [] => some []
 | o :: r => (resOp P N ops o).bind fun o => (resOps P N ops r).map fun r => o :: r
section
variable [Ctx] {P : Program} {β : Nat → Nat × Nat} {kn : Nat → Prop} {t : Tr 3 V} {a : Act} {N : Nat} {ds : List Deferred} {m m' : Mem} {w : World} {n n' : Nat} {v : V}
def VA (β : Nat → Nat × Nat) (kn : Nat → Prop) (vs : List V) (xs : Array Value) : Prop :=
 xs.size = vs.length ∧ ∀ (i : Nat) (v : V) (x : Value), vs[i]? = some v → xs[i]? = some x → VR β kn v x
def Fresh (kn : Nat → Prop) (n n' : Nat) : Prop := ∀ i, n ≤ i → i < n' → ¬ kn i
def Mo (m : Mem) (n : Nat) (m' : Mem) (n' : Nat) : Prop := n ≤ n' ∧ ∀ id b, m'.get id = some b → (m.get id).isSome = true ∨ (n ≤ id ∧ id < n')
theorem Mo.refl (m : Mem) (n : Nat) : Mo m n m n := ⟨Nat.le_refl _, fun id b h => .inl (by rw [h]; rfl)⟩
theorem Mo.trans {m1 m2 m3 : Mem} {n1 n2 n3 : Nat} (h : Mo m1 n1 m2 n2) (h' : Mo m2 n2 m3 n3) : Mo m1 n1 m3 n3 := by
 refine ⟨Nat.le_trans h.1 h'.1, fun id b e => ?_⟩
 have l1 := h.1; have l2 := h'.1
 rcases h'.2 id b e with h1 | h1
 ·obtain ⟨c, hc⟩ := Option.isSome_iff_exists.1 h1
  rcases h.2 id c hc with h2 | h2
  ·exact .inl h2
  ·exact .inr (by omega)
 ·exact .inr (by omega)
theorem Mo.set {k : Nat} {c : Option B} (hs : Tr.set fuel m k c = some m') (hk : (m.get k).isSome = true) : Mo m n m' n := by
 refine ⟨Nat.le_refl _, fun id b e => .inl ?_⟩
 rw [Tr.get_set hs] at e
 by_cases h : id = k
 ·rw [h]; exact hk
 ·rw [if_neg h] at e; rw [e]; rfl
def runC (β : Nat → Nat × Nat) : Cl → Array Value → Sem Next
 | .f f, args => callFunc f args
 | .y id, args => Instr.yield (β id).1 args
def Cl.known (kn : Nat → Prop) : Cl → Prop
 | .f _ => True
 | .y id => kn id
def CallOk (P : Program) (call : CE) : Prop :=
 ∀ f vs m n v m' n', call f vs m n = some (v, m', n') → Mo m n m' n' ∧ ∀ β kn args w, MS β kn m w → VA β kn vs args → f.known kn → Fresh kn n n' →
  ∀ (r : Option Nat) (o : Oper) (a : Act) (next : Act → World → Prop) (Q : Exit → Act → World → Prop),
   (∀ β' x w', Goes β kn m w β' (KN kn n n') m' w' → VR β' (KN kn n n') v x → next (a.put o.dst x) w') → o.uponIn (FW r) 0 P a next Q ((runC β f args).run P w)
theorem VA.append {vs us : List V} {xs ys : Array Value} (h : VA β kn vs xs) (h' : VA β kn us ys) : VA β kn (vs ++ us) (xs ++ ys) := by
 refine ⟨by simp [h.1, h'.1], fun i v x e1 e2 => ?_⟩
 rcases Nat.lt_or_ge i vs.length with hi | hi
 ·rw [List.getElem?_append_left hi] at e1
  rw [Array.getElem?_append_left (by rw [h.1]; exact hi)] at e2
  exact h.2 i v x e1 e2
 ·rw [List.getElem?_append_right hi] at e1
  rw [Array.getElem?_append_right (by rw [h.1]; exact hi), h.1] at e2
  exact h'.2 _ v x e1 e2
theorem TR.put (h : TR β kn t a N ds) {dst : Option Nat} {d' : Option Tmp} (hd : resDst N d' = some dst) {v : V} {x : Value} (hv : VR β kn v x) {t' : Tr 3 V} (ht : putT t dst v = some t') : TR β kn t' (a.put d' x) N ds := by
 cases d' with
 | none =>
  simp [resDst] at hd; subst hd
  simp [putT] at ht; subst ht
  exact h
 | some d =>
  simp only [resDst] at hd
  obtain ⟨hlt, hd⟩ := bif_none hd
  injection hd with hd; subst hd
  have hlt : d < N := nLb hlt
  simp only [putT] at ht
  have hg := Tr.get_set ht
  have hs := h.size
  refine ⟨fun i u e => ?_, by simp [Act.put, hs], h.defers⟩
  rw [hg] at e
  by_cases hi : i = d
  ·subst hi
   rw [if_pos rfl] at e; injection e with e; subst e
   simpa [Act.put, hs, hlt] using hv
  ·rw [if_neg hi] at e
   have := h.tmps i u e
   have e2 : (a.put (some d) x).tmps.getD i undef = a.tmps.getD i undef := by
    simp only [Act.put, Array.getD_eq_getD_getElem?, Array.getElem?_setIfInBounds_ne (Ne.symm hi)]
   rw [e2]; exact this
theorem TR.defer (h : TR β kn t a N ds) : a.defers = ds := h.defers
theorem resG_ok {ops : Array Oper} {o : Oper} {g : Option (Nat × Bool)} (hg : resG ops o.guard = some g) :
  (o.guard = none ∧ g = none) ∨ ∃ j want d, o.guard = some (j, want) ∧ g = some (d, want) ∧ (ops[j]?).bind (·.dst) = some d := by
 cases ho : o.guard with
 | none => rw [ho] at hg; simp [resG] at hg; exact .inl ⟨rfl, hg.symm⟩
 | some p =>
  obtain ⟨j, want⟩ := p
  rw [ho] at hg
  simp only [resG, oMs] at hg
  obtain ⟨d, h1, h2⟩ := hg
  exact .inr ⟨j, want, d, rfl, h2.symm, h1⟩
theorem about_FW (r : Option Nat) (o : Oper) (w : World) (ρ : Operand → Value) : ∀ f, o.about P w ρ = some f → (FW r).fn f := fun _ _ => trivial
theorem plain_wp {r : Option Nat} {o : Oper} (hnd : ∀ c, o.op ≠ .defer c) {K : Act → World → Prop} {Q : Exit → Act → World → Prop} {x : Value} {w' : World}
  (h : (execOp a.eval o).run P w = .ok (.value x) w' ∨ ((execOp a.eval o).run P w = .ok .skip w' ∧ x = undef)) (hK : K (a.put o.dst x) w') : o.wpIn (FW r) 0 P a w K Q := by
 refine ⟨about_FW r o w _, ?_⟩
 rw [Oper.semAt_eq _ _ _ hnd]
 rcases h with h | ⟨h, rfl⟩ <;> rw [h] <;> exact hK
theorem newB_mo {cs : List V} {T : TypeId} {k : V} (h : newB m n cs T k = some (v, m', n')) : Mo m n m' n' := by
 simp only [newB, oMs, pMi] at h
 obtain ⟨m2, hs, _, rfl, rfl⟩ := h
 refine ⟨by omega, fun id b e => ?_⟩
 rw [Tr.get_set hs] at e
 by_cases hid : id = n
 ·exact .inr (by omega)
 ·rw [if_neg hid] at e; exact .inl (by rw [e]; rfl)
theorem newK_mo {b : B} {k : V} (h : newK m n b k = some (v, m', n')) : Mo m n m' n' := by
 simp only [newK, oMs, pMi] at h
 obtain ⟨m2, hs, _, rfl, rfl⟩ := h
 refine ⟨by omega, fun id b e => ?_⟩
 rw [Tr.get_set hs] at e
 by_cases hid : id = n
 ·exact .inr (by omega)
 ·rw [if_neg hid] at e; exact .inl (by rw [e]; rfl)
theorem appendV_mo {sz by_ k : Nat} {T : TypeId} {u : V} {cs : List V} (he : appendV m n sz by_ T u k cs = some (v, m', n')) : Mo m n m' n' := by
 unfold appendV at he
 split at he
 ·cases hk : (k == 0) with
  | true =>
   simp only [hk, cond_true, oSi, pMi] at he
   obtain ⟨_, rfl, rfl⟩ := he; exact Mo.refl _ _
  | false =>
   simp only [hk, cond_false] at he
   exact newB_mo (bif_none he).2
 ·replace he := (bif_none he).2
  split at he
  ·generalize Nat.ble _ _ = b at he
   cases b with
   | true =>
    simp only [cond_true] at he
    split at he
    ·rename_i cs0 T hid
     replace he := (bif_none he).2
     simp only [oMs, pMi] at he
     obtain ⟨_, hs, _, rfl, rfl⟩ := he; exact Mo.set hs (by rw [hid]; rfl)
    ·simp at he
   | false =>
    simp only [cond_false, oBs] at he
    obtain ⟨_, _, he⟩ := he
    exact newB_mo he
  ·replace he := (bif_none he).2
   simp only [oBs] at he
   obtain ⟨_, _, he⟩ := he
   replace he := (bif_none' he).2
   simp only [oBs] at he
   obtain ⟨m1, hs, he⟩ := he
   have h2 := newB_mo he
   refine ⟨h2.1, fun id b e => ?_⟩
   rcases h2.2 id b e with h3 | h3
   ·obtain ⟨c, hc⟩ := Option.isSome_iff_exists.1 h3
    rw [Tr.get_set hs] at hc
    split at hc
    ·simp at hc
    ·exact .inl (by rw [hc]; rfl)
   ·exact .inr h3
 ·simp at he
theorem evM_mo {q : MO} (he : evM q t m n = some (v, m', n')) : Mo m n m' n' := by
 cases q <;> simp only [evM] at he
 ·split at he
  ·split at he
   ·replace he := (bif_none he).2
    simp only [oMs, pMi] at he
    obtain ⟨_, _, _, rfl, rfl⟩ := he; exact Mo.refl _ _
   ·simp at he
  ·simp at he
 ·split at he
  ·split at he
   ·replace he := (bif_none he).2
    simp only [oBs] at he
    obtain ⟨_, _, _, _, he⟩ := he
    replace he := (bif_none he).2
    simp only [oSi, pMi] at he
    obtain ⟨_, rfl, rfl⟩ := he; exact Mo.refl _ _
   ·simp at he
  ·simp at he
 ·exact newB_mo he
 ·simp only [oBs] at he
  obtain ⟨_, _, he⟩ := he
  exact newB_mo he
 ·replace he := (bif_none he).2
  simp only [oBs] at he
  obtain ⟨_, _, he⟩ := he
  exact newB_mo he
 ·split at he
  ·split at he
   ·rename_i cs T hid
    simp only [oBs] at he
    obtain ⟨_, _, he⟩ := he
    replace he := (bif_none he).2
    simp only [oMs, pMi] at he
    obtain ⟨_, hs, _, rfl, rfl⟩ := he; exact Mo.set hs (by rw [hid]; rfl)
   ·simp at he
  ·simp at he
 ·simp only [oBs] at he
  obtain ⟨_, _, _, _, he⟩ := he
  exact newB_mo (bif_none he).2
 ·replace he := (bif_none he).2
  simp only [oBs] at he
  obtain ⟨⟨k, cs⟩, _, he⟩ := he
  replace he := (bif_none he).2
  exact appendV_mo he
 ·split at he
  ·simp only [oMs, pMi] at he
   obtain ⟨_, _, _, rfl, rfl⟩ := he; exact Mo.refl _ _
  ·replace he := (bif_none he).2
   simp only [oBs] at he
   obtain ⟨⟨k, cs⟩, _, he⟩ := he
   dsimp only at he
   generalize min k _ = c at he
   cases hk : (c == 0) with
   | true =>
    simp only [hk, cond_true, oSi, pMi] at he
    obtain ⟨_, rfl, rfl⟩ := he; exact Mo.refl _ _
   | false =>
    simp only [hk, cond_false] at he
    split at he
    ·rename_i cs0 T hid
     replace he := (bif_none he).2
     simp only [oMs, pMi] at he
     obtain ⟨_, hs, _, rfl, rfl⟩ := he; exact Mo.set hs (by rw [hid]; rfl)
    ·simp at he
  ·simp at he
 ·exact newK_mo he
 ·split at he
  ·split at he
   ·rename_i es hid
    simp only [oBs, oMs, pMi] at he
    obtain ⟨_, _, _, hs, _, rfl, rfl⟩ := he; exact Mo.set hs (by rw [hid]; rfl)
   ·simp at he
  ·simp at he
 ·simp only [oBs, oSi, pMi] at he
  obtain ⟨_, _, _, _, _, rfl, rfl⟩ := he; exact Mo.refl _ _
 ·simp only [oBs] at he
  obtain ⟨_, _, he⟩ := he
  exact newK_mo he
 ·split at he
  ·split at he
   ·rename_i s pos hid
    cases hk : Nat.blt pos s.size with
    | true =>
     simp only [hk, cond_true, oMs, pMi] at he
     obtain ⟨_, hs, _, rfl, rfl⟩ := he; exact Mo.set hs (by rw [hid]; rfl)
    | false =>
     simp only [hk, cond_false, oSi, pMi] at he
     obtain ⟨_, rfl, rfl⟩ := he; exact Mo.refl _ _
   ·simp at he
  ·simp at he
 ·replace he := (bif_none he).2
  simp only [oBs] at he
  obtain ⟨_, _, he⟩ := he
  exact appendV_mo (bif_none he).2
 ·split at he
  ·simp only [oSi, pMi] at he
   obtain ⟨_, rfl, rfl⟩ := he; exact Mo.refl _ _
  ·split at he
   ·replace he := (bif_none he).2
    simp only [oSi, pMi] at he
    obtain ⟨_, rfl, rfl⟩ := he; exact Mo.refl _ _
   ·simp at he
  ·simp at he
 ·split at he
  ·simp only [oSi, pMi] at he
   obtain ⟨_, rfl, rfl⟩ := he; exact Mo.refl _ _
  ·split at he
   ·replace he := (bif_none he).2
    simp only [oSi, pMi] at he
    obtain ⟨_, rfl, rfl⟩ := he; exact Mo.refl _ _
   ·simp at he
  ·simp at he
 ·simp only [oBs] at he
  obtain ⟨k, _, he⟩ := he
  split at he
  ·replace he := (bif_none he).2
   simp only [oSi, pMi] at he
   obtain ⟨_, rfl, rfl⟩ := he; exact Mo.refl _ _
  ·cases hk : (k == 0) with
   | true =>
    simp only [hk, cond_true, oSi, pMi] at he
    obtain ⟨_, rfl, rfl⟩ := he; exact Mo.refl _ _
   | false =>
    simp only [hk, cond_false] at he
    split at he
    ·rename_i cs T hid
     replace he := (bif_none he).2
     simp only [oBs, oMs, pMi] at he
     obtain ⟨_, _, _, hs, _, rfl, rfl⟩ := he; exact Mo.set hs (by rw [hid]; rfl)
    ·simp at he
  ·simp at he
 ·simp only [oBs] at he
  obtain ⟨_, _, he⟩ := he
  exact newK_mo he
 ·split at he
  ·simp at he
  ·simp only [oBs, oMs, pMi] at he
   obtain ⟨_, _, _, _, _, rfl, rfl⟩ := he; exact Mo.refl _ _
 ·split at he
  ·simp only [oSi, pMi] at he
   obtain ⟨_, rfl, rfl⟩ := he; exact Mo.refl _ _
  ·rename_i id off len cap sz' _
   cases hk : (len == 0) with
   | true =>
    simp only [hk, cond_true, oSi, pMi] at he
    obtain ⟨_, rfl, rfl⟩ := he; exact Mo.refl _ _
   | false =>
    simp only [hk, cond_false] at he
    replace he := (bif_none he).2
    split at he
    ·rename_i cs T hid
     replace he := (bif_none he).2
     simp only [oMs, pMi] at he
     obtain ⟨_, hs, _, rfl, rfl⟩ := he; exact Mo.set hs (by rw [hid]; rfl)
    ·simp at he
  ·simp at he
theorem VA.vals (ht : TR β kn t a N ds) (l : Array Operand) : VA β kn ((l.toList.map resX).map (val t)) (l.map a.eval) := vals_ok ht l
theorem methTbl_ok {name : String} {u : TypeId} {f : FuncId} : ∀ {l : List TypeId}, (methTbl P name l).lookup u = some f → methOk P u name = some f
 | [], h => by simp [methTbl] at h
 | t :: r, h => by
  simp only [methTbl] at h
  split at h
  ·rename_i g hg
   rw [List.lookup_cons] at h
   split at h
   ·rename_i he
    have : u = t := by simpa using he
    injection h with h; subst h this; exact hg
   ·exact methTbl_ok h
  ·exact methTbl_ok h
theorem method_run {t : TypeId} {name : String} {f : FuncId} (h : methOk P t name = some f) (v : Value) (w : World) (args : Array Value) : (callMethod (.iface t v) name args).run P w = (callFunc f (#[v] ++ args)).run P w := by
 unfold methOk at h
 simp only [oBs] at h
 obtain ⟨i, hi, m, hm, h⟩ := h
 have hp := (bif_none h).1
 replace h := (bif_none h).2
 have hp : m.path = #[] := by simpa using hp
 have key : ∀ k, (method (k + 1) t v name).run P w = .ok (f, v) w := by
  intro k
  split at h
  ·rename_i g _ e hmf hu
   injection h with h; subst h
   simp [method, typeInfo, hi, hm, hp, follow, hmf, receiverAt, run_underlying hu, Place.get]
  ·cases h
  ·rename_i g d hnp hmf hu
   injection h with h; subst h
   cases d <;> first | (simp [method, typeInfo, hi, hm, hp, follow, hmf, receiverAt, run_underlying hu, Place.get]; done) | exact absurd rfl (hnp _)
  ·cases h
 have hd : P.types.size + Made.depth = (P.types.size + Made.depth - 1) + 1 := by
  have : 0 < Made.depth := by decide
  omega
 simp only [callMethod, Sem.run_bind, run_program, Result.andThen_ok]
 rw [hd, key]
 rfl
theorem evOp_ok {call : CE} (hc : CallOk P call) {o : Oper} {ro : RO} (hr : resRO P o = some ro) {s : St} {v : V} (he : evOp call ro s = some (v, m', n')) :
  Mo s.m s.n m' n' ∧ ∀ β kn a w N ds, MS β kn s.m w → TR β kn s.t a N ds → Fresh kn s.n n' →
   ∀ (r : Option Nat) (K : Act → World → Prop) (Q : Exit → Act → World → Prop),
    (∀ β' x w', Goes β kn s.m w β' (KN kn s.n n') m' w' → VR β' (KN kn s.n n') v x → K (a.put o.dst x) w') → o.wpIn (FW r) 0 P a w K Q := by
 unfold resRO at hr
 split at hr
 ·rename_i q hq
  simp only [oSi] at hr; subst hr
  simp only [evOp, oMs, pMi] at he
  obtain ⟨v', hv, rfl, rfl, rfl⟩ := he
  refine ⟨Mo.refl _ _, fun β kn a w N ds hm ht _ r K Q hK => ?_⟩
  obtain ⟨x, h1, h2⟩ := evP_ok (P := P) ht hq hv
  refine plain_wp (fun c hc => ?_) (.inl (h1 w)) (hK β x w (Goes.same hm _) (by rw [KN_same]; exact h2))
  unfold resP at hq; rw [hc] at hq; simp at hq
 ·split at hr
  ·rename_i q hq
   simp only [oSi] at hr; subst hr
   simp only [evOp] at he
   have hnd : ∀ c, o.op ≠ .defer c := fun c hc => by unfold resM at hq; rw [hc] at hq; simp at hq
   refine ⟨evM_mo he, fun β kn a w N ds hm ht hf r K Q hK => ?_⟩
   obtain ⟨_, x, w', β', h1, h2, h3⟩ := evM_ok (P := P) ht hm (fun hlt => hf _ (Nat.le_refl _) hlt) hq he
   exact plain_wp hnd h1 (hK β' x w' h2 h3)
  ·split at hr
   ·rename_i c ho
    split at hr
    ·rename_i f hcal
     simp only [oSi] at hr; subst hr
     simp only [evOp] at he
     obtain ⟨hle, h⟩ := hc _ _ _ _ _ _ _ he
     refine ⟨hle, fun β kn a w N ds hm ht hf r K Q hK => ⟨about_FW r o w _, ?_⟩⟩
     rw [Oper.semAt_eq _ _ _ (by simp [ho])]
     have h1 : (execOp a.eval o).run P w = (callFunc f (c.args.map a.eval)).run P w := by
      simp [execOp, ho, resolve, hcal, Act.eval, Deferred.ofValue, invoke]
     rw [h1]
     exact h β kn _ w hm (VA.vals ht c.args) trivial hf r o a K Q hK
    ·rename_i x hnf hcal
     simp only [oSi] at hr; subst hr
     simp only [evOp] at he
     split at he
     ·rename_i f first caps hv
      obtain ⟨hle, h⟩ := hc _ _ _ _ _ _ _ he
      refine ⟨hle, fun β kn a w N ds hm ht hf r K Q hK => ⟨about_FW r o w _, ?_⟩⟩
      rw [Oper.semAt_eq _ _ _ (by simp [ho])]
      have hx := val_ok ht x
      rw [hv] at hx
      generalize hev : a.eval x = q at hx
      cases hx with
      | fn f first caps xs ys g1 g2 g3 g4 =>
      have h1 : (execOp a.eval o).run P w = (callFunc f (xs ++ c.args.map a.eval ++ ys)).run P w := by
       simp [execOp, ho, resolve, hcal, hev, Deferred.ofValue, invoke]
      rw [h1]
      exact h β kn _ w hm (((VA.append ⟨g1, g2⟩ (VA.vals ht c.args))).append ⟨g3, g4⟩) trivial hf r o a K Q hK
     ·rename_i id hv
      obtain ⟨hle, h⟩ := hc _ _ _ _ _ _ _ he
      refine ⟨hle, fun β kn a w N ds hm ht hf r K Q hK => ⟨about_FW r o w _, ?_⟩⟩
      rw [Oper.semAt_eq _ _ _ (by simp [ho])]
      have hx := val_ok ht x
      rw [hv] at hx
      generalize hev : a.eval x = q at hx
      cases hx with
      | yl id hk =>
      have h1 : (execOp a.eval o).run P w = (Instr.yield (β id).1 (c.args.map a.eval)).run P w := by
       simp [execOp, ho, resolve, hcal, hev, Deferred.ofValue, invoke]
      rw [h1]
      exact h β kn _ w hm (VA.vals ht c.args) hk hf r o a K Q hK
     ·simp at he
    ·rename_i x name hcal
     simp only [oSi] at hr; subst hr
     simp only [evOp] at he
     split at he
     ·rename_i u vi hv
      split at he
      ·rename_i f hlk
       obtain ⟨hle, h⟩ := hc _ _ _ _ _ _ _ he
       refine ⟨hle, fun β kn a w N ds hm ht hf r K Q hK => ⟨about_FW r o w _, ?_⟩⟩
       rw [Oper.semAt_eq _ _ _ (by simp [ho])]
       have hx := val_ok ht x
       rw [hv] at hx
       generalize hev : a.eval x = q at hx
       cases hx with
       | ifc u vi y hy =>
       have h1 : (execOp a.eval o).run P w = (callFunc f (#[y] ++ c.args.map a.eval)).run P w := by
        rw [← method_run (methTbl_ok hlk) y w (c.args.map a.eval)]
        have e1 : (#[Value.iface u y] ++ c.args.map a.eval)[0]? = some (Value.iface u y) := by rw [Array.getElem?_append_left (by simp)]; rfl
        have e2 : (#[Value.iface u y] ++ c.args.map a.eval).extract 1 (#[Value.iface u y] ++ c.args.map a.eval).size = c.args.map a.eval := by
         apply Array.ext'
         simp
         rw [List.take_of_length_le (by simp)]
        simp only [execOp, ho, resolve, hcal, hev, Sem.run_bind, Sem.run_pure, Result.andThen_ok, invoke, e1, e2]
       rw [h1]
       have hva := VA.vals ht c.args
       have hsz := hva.1
       refine h β kn _ w hm ⟨by simp only [Array.size_append, List.length_cons, hsz]; simp; omega, fun i v z z1 z2 => ?_⟩ trivial hf r o a K Q hK
       cases i with
       | zero =>
        rw [Array.getElem?_append_left (by simp)] at z2
        simp at z1 z2; subst z1 z2; exact hy
       | succ i => exact hva.2 i v z (by simpa using z1) (by rw [Array.getElem?_append_right (by simp)] at z2; simpa using z2)
      ·cases he
     ·cases he
    ·simp only [oSi] at hr; subst hr; simp [evOp] at he
   ·simp only [oSi] at hr; subst hr; simp [evOp] at he
def Opd (r : Option Nat) (P : Program) (ops : Array Oper) (o : Oper) (K : Act → World → Prop) (Q : Exit → Act → World → Prop) (a : Act) (w : World) : Prop :=
 if Region.wanted o (yielded ops a.tmps) then o.wpIn (FW r) 0 P a w K Q else (∀ f, o.about P w a.eval = some f → (FW r).fn f) ∧ K (a.put o.dst undef) w
theorem yielded_of {ops : Array Oper} {j d : Nat} (h : (ops[j]?).bind (·.dst) = some d) (tmps : Array Value) : yielded ops tmps j = match tmps.getD d undef with
  | .bool b => some b
  | _ => none := by
 unfold yielded
 rw [h]
 simp only [Option.bind_some, Array.getD_eq_getD_getElem?]
 cases tmps[d]? with
 | none => rfl
 | some v => cases v <;> rfl
theorem runOp_ok {call : CE} (hc : CallOk P call) {ops : Array Oper} {o : Oper} {ro : ROp} {s s' : St} (hr : resOp P N ops o = some ro) (he : runOp call ro s = some s') :
  Mo s.m s.n s'.m s'.n ∧ ∀ β kn a w ds, MS β kn s.m w → TR β kn s.t a N ds → Fresh kn s.n s'.n →
   ∀ (r : Option Nat) (K : Act → World → Prop) (Q : Exit → Act → World → Prop),
    (∀ β' a' w', Goes β kn s.m w β' (KN kn s.n s'.n) s'.m w' → TR β' (KN kn s.n s'.n) s'.t a' N ds → K a' w') → Opd r P ops o K Q a w := by
 simp only [resOp, oBs, oMs] at hr
 obtain ⟨dst, hd, g, hg, op, hop, rfl⟩ := hr
 have hdo : doOp call ⟨dst, g, op⟩ s = some s' → Mo s.m s.n s'.m s'.n ∧ ∀ β kn a w ds, MS β kn s.m w → TR β kn s.t a N ds → Fresh kn s.n s'.n →
   ∀ (r : Option Nat) (K : Act → World → Prop) (Q : Exit → Act → World → Prop),
    (∀ β' a' w', Goes β kn s.m w β' (KN kn s.n s'.n) s'.m w' → TR β' (KN kn s.n s'.n) s'.t a' N ds → K a' w') → o.wpIn (FW r) 0 P a w K Q := by
  intro he
  simp only [doOp, oBs, oMs] at he
  obtain ⟨⟨v, m1, n1⟩, h1, t1, h2, rfl⟩ := he
  obtain ⟨hle, h⟩ := evOp_ok hc hop h1
  refine ⟨hle, fun β kn a w ds hm ht hf r K Q hK => h β kn a w N ds hm ht hf r K Q fun β' x w' g1 g2 => ?_⟩
  exact hK β' _ w' g1 ((ht.mono g1.ext).put hd g2 h2)
 have hskip : (putT s.t dst (.tup [])).map (fun t => ({ s with t } : St)) = some s' → Mo s.m s.n s'.m s'.n ∧ ∀ β kn a w ds, MS β kn s.m w → TR β kn s.t a N ds →
   ∀ (K : Act → World → Prop), (∀ β' a' w', Goes β kn s.m w β' (KN kn s.n s'.n) s'.m w' → TR β' (KN kn s.n s'.n) s'.t a' N ds → K a' w') → K (a.put o.dst undef) w := by
  intro he
  simp only [oMs] at he
  obtain ⟨t1, h2, rfl⟩ := he
  refine ⟨Mo.refl _ _, fun β kn a w ds hm ht K hK => hK β _ w (Goes.same hm _) ?_⟩
  rw [KN_same]
  exact ht.put hd (.tup [] #[] rfl (by simp)) h2
 rcases resG_ok hg with ⟨h1, rfl⟩ | ⟨j, want, d, h1, rfl, h3⟩
 ·obtain ⟨hle, h⟩ := hdo he
  refine ⟨hle, fun β kn a w ds hm ht hf r K Q hK => ?_⟩
  unfold Opd
  rw [if_pos (by simp [Region.wanted, h1])]
  exact h β kn a w ds hm ht hf r K Q hK
 ·simp only [runOp] at he
  split at he
  ·rename_i b hb
   have hy : ∀ β kn (a : Act) ds, TR β kn s.t a N ds → yielded ops a.tmps j = some b := by
    intro β kn a ds ht
    rw [yielded_of h3]
    have := ht.tmps d _ hb
    generalize a.tmps.getD d undef = q at this
    cases this; rfl
   cases hbw : (b == want) with
   | true =>
    simp only [hbw, cond_true] at he
    obtain ⟨hle, h⟩ := hdo he
    refine ⟨hle, fun β kn a w ds hm ht hf r K Q hK => ?_⟩
    unfold Opd
    rw [if_pos (by
     simp only [Region.wanted, h1, hy β kn a ds ht]
     simp only [beq_iff_eq] at hbw; subst hbw; exact beq_self_eq_true _)]
    exact h β kn a w ds hm ht hf r K Q hK
   | false =>
    simp only [hbw, cond_false] at he
    obtain ⟨hle, h⟩ := hskip he
    refine ⟨hle, fun β kn a w ds hm ht hf r K Q hK => ?_⟩
    unfold Opd
    rw [if_neg (by
     simp only [Region.wanted, h1, hy β kn a ds ht]
     intro hq
     have : b = want := by simpa using hq
     subst this; simp at hbw)]
    exact ⟨about_FW r o w _, h β kn a w ds hm ht K hK⟩
  ·rename_i hb
   have hy : ∀ β kn (a : Act) ds, TR β kn s.t a N ds → yielded ops a.tmps j = none := by
    intro β kn a ds ht
    rw [yielded_of h3]
    have := ht.tmps d _ hb
    generalize a.tmps.getD d undef = q at this
    cases this; rfl
   obtain ⟨hle, h⟩ := hskip he
   refine ⟨hle, fun β kn a w ds hm ht hf r K Q hK => ?_⟩
   unfold Opd
   rw [if_neg (by
    simp only [Region.wanted, h1, hy β kn a ds ht]
    intro hq; simp at hq)]
   exact ⟨about_FW r o w _, h β kn a w ds hm ht K hK⟩
  ·simp at he
theorem Fresh.left (h : Fresh kn n n') {k : Nat} (hk : k ≤ n') : Fresh kn n k := fun i h1 h2 => h i h1 (by omega)
theorem Fresh.right {k : Nat} (h : Fresh kn n n') (h1 : n ≤ k) : Fresh (KN kn n k) k n' := fun i h2 h3 hk => hk.elim (h i (by omega) h3) (fun hk => by omega)
theorem runOps_then {call : CE} (hc : CallOk P call) {ops : Array Oper} (r : Option Nat) (Q : Exit → Act → World → Prop) (rest : List Nat) : ∀ {l : List Oper} {rl : List ROp} {k : Nat} {s s' : St}, (∀ j o, l[j]? = some o → ops[k + j]? = some o) → resOps P N ops l = some rl → runOps call rl s = some s' →
  Mo s.m s.n s'.m s'.n ∧ ∀ β kn a w ds, MS β kn s.m w → TR β kn s.t a N ds → Fresh kn s.n s'.n →
    (∀ β' a' w', Goes β kn s.m w β' (KN kn s.n s'.n) s'.m w' → TR β' (KN kn s.n s'.n) s'.t a' N ds → wpOpsIn (FW r) 0 P ops Q rest a' w') → wpOpsIn (FW r) 0 P ops Q (List.range' k l.length ++ rest) a w
 | [], rl, k, s, s', _, hr, he => by
  simp [resOps] at hr; subst hr
  simp [runOps] at he; subst he
  refine ⟨Mo.refl _ _, fun β kn a w ds hm ht _ hQ => ?_⟩
  exact hQ β a w (Goes.same hm _) (by rw [KN_same]; exact ht)
 | o :: l, rl, k, s, s', hl, hr, he => by
  simp only [resOps, oBs, oMs] at hr
  obtain ⟨ro, h1, rl', h2, rfl⟩ := hr
  simp only [runOps] at he
  split at he
  ·rename_i s1 hs1
   obtain ⟨le1, p1⟩ := runOp_ok hc h1 hs1
   have hl' : ∀ j o, l[j]? = some o → ops[k + 1 + j]? = some o := fun j o h => by have := hl (j + 1) o (by simpa using h); simpa [Nat.add_assoc, Nat.add_comm 1 j] using this
   obtain ⟨le2, p2⟩ := runOps_then hc r Q rest hl' h2 he
   refine ⟨le1.trans le2, fun β kn a w ds hm ht hf hQ => ?_⟩
   have h0 : ops[k]? = some o := by simpa using hl 0 o rfl
   rw [List.length_cons, List.range'_succ, List.cons_append]
   simp only [wpOpsIn, h0]
   refine p1 β kn a w ds hm ht (hf.left le2.1) r _ Q fun β1 a1 w1 g1 t1 => ?_
   have hf1 := hf.right le1.1
   refine p2 β1 _ a1 w1 ds g1.ms t1 hf1 fun β2 a2 w2 g2 t2 => ?_
   rw [KN_KN le1.1 le2.1] at g2 t2
   exact hQ β2 a2 w2 (g1.trans g2) t2
  ·simp at he
theorem runOps_ok {call : CE} (hc : CallOk P call) {ops : Array Oper} (r : Option Nat) (Q : Exit → Act → World → Prop) {l : List Oper} {rl : List ROp} {k : Nat} {s s' : St} (hl : ∀ j, l[j]? = ops[k + j]?) (hr : resOps P N ops l = some rl) (he : runOps call rl s = some s') :
  Mo s.m s.n s'.m s'.n ∧ ∀ β kn a w ds, MS β kn s.m w → TR β kn s.t a N ds → Fresh kn s.n s'.n →
    (∀ β' a' w', Goes β kn s.m w β' (KN kn s.n s'.n) s'.m w' → TR β' (KN kn s.n s'.n) s'.t a' N ds → Q .normal a' w') → wpOpsIn (FW r) 0 P ops Q (List.range' k l.length) a w := by
 have := runOps_then hc r Q [] (ops := ops) (l := l) (k := k) (fun j o h => by rw [← hl]; exact h) hr he
 refine ⟨this.1, fun β kn a w ds hm ht hf hQ => ?_⟩
 have h := this.2 β kn a w ds hm ht hf hQ
 rwa [List.append_nil] at h
end
end Go.Fm
namespace Go.Fm
def same1 : V → V → Bool
 | .int k n, .int k' n' => k == k' && n == n'
 | .bool b, .bool b' => b == b'
 | .str s, .str s' => s.data.toList == s'.data.toList
 | .ptr i o, .ptr i' o' => i == i' && o == o'
 | .nilp, .nilp => true
 | .sl i o l c z, .sl i' o' l' c' z' => i == i' && o == o' && l == l' && c == c' && z == z'
 | .nils, .nils => true
 | .mp i, .mp i' => i == i'
 | .nilm, .nilm => true
 | .nilf, .nilf => true
 | .nili, .nili => true
 | .fn (.func f) [] [], .fn (.func f') [] [] => f == f'
 | _, _ => false
def sameL : List V → List V → Bool
 | [], [] => true
 | v :: r, v' :: r' => same1 v v' && sameL r r'
 | _, _ => false
def V.same : V → V → Bool
 | .agg l, .agg l' => sameL l l'
 | .tup l, .tup l' => sameL l l'
 | .fn (.func f) a b, .fn (.func f') a' b' => f == f' && sameL a a' && sameL b b'
 | .ifc t v, .ifc t' v' => t == t' && same1 v v'
 | v, v' => same1 v v'
structure DOp where
 i : Nat
 o : ROp
structure DStage where
 rs : List DOp
 pm : List Nat
 mo : Option DOp
 re : List DOp
abbrev DR := List DStage
structure Env where
 nat : Tr 4 (List V → Option V)
def evR (E : Env) (o : RO) (t : Tr 3 V) (m : Mem) : Option V :=
 match o with
 | .p q => evP q t
 | .m (.load n g x) => (evM (.load n g x) t m 0).map (·.1)
 | .m (.slArr len sz x lo hi) => (evM (.slArr len sz x lo hi) t m 0).map (·.1)
 | .m (.lookup z ok x k) => (evM (.lookup z ok x k) t m 0).map (·.1)
 | .call f xs => (E.nat.get f).bind fun F => F (xs.map (val t))
 | _ => none
def evA (o : RO) (t : Tr 3 V) (n : Nat) : Option (Option (B × V)) :=
 match o with
 | .m (.alloc z T) => some (some (.cells z T, .ptr n 0))
 | .m (.box x T) => some ((cellsV (val t x)).map fun cs => (.cells cs T, .ptr n 0))
 | .m (.buildSl z len sz ps T) => some (bif Nat.ble (len * sz) 16777216 && z.length == sz then (fillX t (replV z len) ps).map fun cs => (.cells cs T, .sl n 0 len (some len) sz) else none)
 | .m (.makeSl z sz by_ l c T) => some ((asInt (val t l)).bind fun l => (asInt (val t c)).bind fun c =>
   bif leI 0 l && leI l c && roomOk c.toNat by_ && z.length == sz then some (.cells (replV z c.toNat) T, .sl n 0 l.toNat (some c.toNat) sz) else none)
 | .m .mkMap => some (some (.map [], .mp n))
 | _ => none
structure DSt where
 t : Tr 3 V
 m : Mem
 n : Nat
 pend : List (Nat × Nat × B)
def wantG (t : Tr 3 V) : Option (Nat × Bool) → Option Bool
 | none => some true
 | some (d, want) => match t.get d with
  | some (.bool b) => some (b == want)
  | some (.tup []) => some false
  | _ => none
def pendMap (id : Nat) : List (Nat × Nat × B) → Option (List (ByteArray × V))
 | [] => none
 | (_, j, b) :: r => bif j == id then (match b with
  | .map es => some es
  | _ => none) else pendMap id r
def pendPut (id : Nat) (es : List (ByteArray × V)) (l : List (Nat × Nat × B)) : List (Nat × Nat × B) := l.map fun p => bif p.2.1 == id then (p.1, p.2.1, .map es) else p
def isMs : RO → Bool
 | .m (.mapSet ..) => true
 | _ => false
def msArgs (o : RO) (t : Tr 3 V) : Option (Nat × ByteArray × V) := match o with
 | .m (.mapSet x k v) => match val t x with
  | .mp id => (asStr (val t k)).map fun s => (id, s, val t v)
  | _ => none
 | _ => none
def stepMs (d : DOp) (s : DSt) : Option DSt := (msArgs d.o.op s.t).bind fun a => (pendMap a.1 s.pend).bind fun es => bif (findS a.2.1 es).isNone then
 (putT s.t d.o.dst (.tup [])).map fun t => { s with t, pend := pendPut a.1 (es ++ [(a.2.1, a.2.2)]) s.pend } else none
def stepRA (E : Env) (d : DOp) (s : DSt) : Option DSt :=
 match wantG s.t d.o.g with
 | none => none
 | some false => (putT s.t d.o.dst (.tup [])).map fun t => { s with t }
 | some true => bif isMs d.o.op then stepMs d s else match evA d.o.op s.t s.n with
  | some none => none
  | some (some (cs, k)) => bif Nat.blt s.n 262144 then (putT s.t d.o.dst k).map fun t => ⟨t, s.m, s.n + 1, (d.i, s.n, cs) :: s.pend⟩ else none
  | none => (evR E d.o.op s.t s.m).bind fun v => (putT s.t d.o.dst v).map fun t => { s with t }
def stepRAs (E : Env) : List DOp → DSt → Option DSt
 | [], s => some s
 | d :: r, s => match stepRA E d s with
  | some s => stepRAs E r s
  | none => none
def setAll : Mem → List (Nat × Nat × B) → Option Mem
 | m, [] => some m
 | m, (_, id, b) :: r => (Tr.set fuel m id (some b)).bind fun m => setAll m r
def recheck (E : Env) (t : Tr 3 V) (m : Mem) : List DOp → Bool
 | [] => true
 | d :: r => (match wantG t d.o.g with
  | none => false
  | some false => true
  | some true => match evR E d.o.op t m, d.o.dst with
   | some v, some k => match t.get k with
    | some v' => V.same v v'
    | none => false
   | _, _ => false) && recheck E t m r
def runDR (E : Env) (call : CE) : DR → DSt → Option St
 | [], s => (setAll s.m s.pend).map fun m => ⟨s.t, m, s.n⟩
 | g :: r, s => match stepRAs E g.rs s with
  | none => none
  | some s => match g.mo with
   | none => (setAll s.m s.pend).map fun m => ⟨s.t, m, s.n⟩
   | some d => (setAll s.m (s.pend.filter fun p => g.pm.contains p.1)).bind fun m => match runOp call d.o ⟨s.t, m, s.n⟩ with
    | none => none
    | some u => bif recheck E u.t u.m g.re then runDR E call r ⟨u.t, u.m, u.n, s.pend.filter fun p => !g.pm.contains p.1⟩ else none
inductive RC where
 | skip
 | ops (l : List ROp)
 | opsD (l : List ROp) (x : X) (xs : List X)
 | drawn (d : DR)
 | seq (a b : RC)
 | cond (x : X) (a b : RC)
 | block (id : Nat) (a : RC)
 | loop (a : RC)
 | exit (id : Nat)
 | ret
 | rangef (g : X) (key : Nat)
 | bad
inductive Ex where
 | normal
 | exit (id : Nat)
 | ret
inductive RR where
 | t (i : Nat)
 | c (i : Nat) (n : Nat) (g : Bool)
structure RFn where
 nt : Nat
 body : RC
 res : List RR
structure DFn where
 nt : Nat
 pre : List ROp
 body : RC
 res : List RR
structure Site where
 ps : List Nat
 nt : Nat
 asg : RC
 body : RC
structure Env' extends Env where
 fns : Tr 4 RFn
 sites : Tr 4 Site
 mnat : Tr 4 (List V → Mem → Nat → Option (V × Mem × Nat))
 dfns : Tr 4 DFn
def evRes (t : Tr 3 V) (m : Mem) : List RR → Option (List V)
 | [] => some []
 | .t i :: r => (evRes t m r).map fun l => (t.get i).getD .u :: l
 | .c i n g :: r => (evM (.load n g (.t i)) t m 0).bind fun v => (evRes t m r).map fun l => v.1 :: l
def oneV : List V → V
 | [v] => v
 | vs => .tup vs
def argT : Nat → List V → Tr 3 V → Option (Tr 3 V)
 | _, [], t => some t
 | i, v :: r, t => (Tr.set fuel t i (some v)).bind fun t => argT (i + 1) r t
inductive FI where
 | mark (id : Nat)
 | dcall (f : FuncId) (vs : List V)
abbrev Run := RC → St → Option (Ex × List FI × St)
def Ex.jump : Ex → Option Jmp
 | .normal => none
 | .exit id => some (.exit id)
 | .ret => some .ret
def jumpEx : Option Jmp → Ex
 | none => .normal
 | some (.exit id) => .exit id
 | some .ret => .ret
def putArgs : Tr 3 V → List Nat → List V → Option (Tr 3 V)
 | t, [], [] => some t
 | t, p :: ps, v :: vs => (Tr.set fuel t p (some v)).bind fun t => putArgs t ps vs
 | _, _, _ => none
def setLoop (m : Mem) (id : Nat) (st : LoopState) (pend : Option Jmp) : Option Mem := match m.get id with
 | some (.loop key _ _ t db) => Tr.set fuel m id (some (.loop key st pend t db))
 | _ => none
def runD (run : Run) (fn : RFn) (vs : List V) (m : Mem) (n : Nat) : Option (Mem × Nat) :=
 bif Nat.ble vs.length fn.nt then (argT 0 vs .nil).bind fun t => (run fn.body ⟨t, m, n⟩).bind fun
  | (.exit _, _, _) => none
  | (_, [], s) => (evRes s.t s.m fn.res).map fun _ => (s.m, s.n)
  | _ => none else none
def runDD (run : Run) (fn : DFn) (vs : List V) (m : Mem) (n : Nat) : Option (Mem × Nat) :=
 bif Nat.ble vs.length fn.nt then (argT 0 vs .nil).bind fun t => (runOps (fun _ _ _ _ => none) fn.pre ⟨t, m, n⟩).bind fun s => (run fn.body s).bind fun
  | (.exit _, _, _) => none
  | (_, [], s) => (evRes s.t s.m fn.res).map fun _ => (s.m, s.n)
  | _ => none else none
def dcall (E : Env') (run : Run) (f : FuncId) (vs : List V) (m : Mem) (n : Nat) : Option (Mem × Nat) :=
 match E.dfns.get f with
 | some fn => runDD run fn vs m n
 | none => match E.fns.get f with
  | some fn => runD run fn vs m n
  | none => none
def leaveF (E : Env') (run : Run) : List FI → Mem → Nat → Option (Mem × Nat)
 | [], m, n => some (m, n)
 | .mark id :: r, m, n => match m.get id with
  | some .defs => (Tr.set fuel m id none).bind fun m => leaveF E run r m n
  | _ => none
 | .dcall f vs :: r, m, n => (dcall E run f vs m n).bind fun q => leaveF E run r q.1 q.2
def retFn (E : Env') (run : Run) (fn : RFn) (r : Ex × List FI × St) : Option (V × Mem × Nat) := match r with
 | (.exit _, _, _) => none
 | (_, k, s) => (leaveF E run k s.m s.n).bind fun q => (evRes s.t q.1 fn.res).map fun l => (oneV l, q.1, q.2)
def round (E : Env') (run : Run) (id : Nat) (vs : List V) (m : Mem) (n : Nat) : Option (V × Mem × Nat) :=
 match m.get id with
 | some (.loop key .ready none t _) => (E.sites.get key).bind fun st => (putArgs t st.ps vs).bind fun t => (run st.asg ⟨t, m, n⟩).bind fun
  | (.normal, [], s) => match s.m.get id with
   | some (.loop _ .ready none _ _) => (setLoop s.m id .busy none).bind fun m => (run st.body ⟨s.t, m, s.n⟩).bind fun
    | (e, [], s) => (setLoop s.m id (match e with
     | .normal => .ready
     | _ => .done) e.jump).map fun m => (.bool e.jump.isNone, m, s.n)
    | _ => none
   | _ => none
  | _ => none
 | _ => none
def callFn (E : Env') (run : Run) : CE := fun c vs m n =>
 match c with
 | .y id => round E run id vs m n
 | .f f => match E.nat.get f with
  | some F => (F vs).map fun v => (v, m, n)
  | none => match E.mnat.get f with
   | some F => F vs m n
   | none => match E.fns.get f with
    | none => none
    | some fn => bif Nat.ble vs.length fn.nt then (argT 0 vs .nil).bind fun t => (run fn.body ⟨t, m, n⟩).bind (retFn E run fn) else none
def later (k : List FI) (o : Option (Ex × List FI × St)) : Option (Ex × List FI × St) := match k with
 | [] => o
 | k => o.map fun r => (r.1, r.2.1 ++ k, r.2.2)
def rangef (E : Env') (call : CE) (g : V) (key : Nat) (s : St) : Option (Ex × List FI × St) :=
 match g with
 | .fn (.func f) first caps => bif (E.nat.get f).isSome || (E.mnat.get f).isSome then none else (Tr.set fuel s.m s.n (some .defs)).bind fun m1 => (Tr.set fuel m1 (s.n + 1) (some (.loop key .ready none s.t s.n))).bind fun m2 =>
  (call (.f f) (first ++ [.yl (s.n + 1)] ++ caps) m2 (s.n + 2)).bind fun (_, m3, n3) => match m3.get (s.n + 1) with
   | some (.loop _ .ready pend _ _) | some (.loop _ .done pend _ _) => (setLoop m3 (s.n + 1) .exhausted pend).map fun m4 => (jumpEx pend, [.mark s.n], ⟨s.t, m4, n3⟩)
   | _ => none
 | _ => none
def step (E : Env') (run : Run) (c : RC) (s : St) : Option (Ex × List FI × St) :=
 match c with
 | .skip => some (.normal, [], s)
 | .ops l => (runOps (callFn E run) l s).map fun s => (.normal, [], s)
 | .opsD l x xs => (runOps (callFn E run) l s).bind fun s => match val s.t x with
  | .fn (.func f) first caps => some (.normal, [.dcall f (first ++ xs.map (val s.t) ++ caps)], s)
  | _ => none
 | .drawn d => (runDR E.toEnv (callFn E run) d ⟨s.t, s.m, s.n, []⟩).map fun s => (.normal, [], s)
 | .seq a b => match run a s with
  | some (.normal, k, s) => later k (run b s)
  | x => x
 | .cond x a b => match asBool (val s.t x) with
  | some true => run a s
  | some false => run b s
  | none => none
 | .block id a => match run a s with
  | some (.exit i, k, s) => bif i == id then some (.normal, k, s) else some (.exit i, k, s)
  | x => x
 | .loop a => match run a s with
  | some (.normal, k, s) => later k (run (.loop a) s)
  | x => x
 | .exit id => some (.exit id, [], s)
 | .ret => some (.ret, [], s)
 | .rangef g key => rangef E (callFn E run) (val s.t g) key s
 | .bad => none
def exec (E : Env') : Nat → RC → St → Option (Ex × List FI × St)
 | 0 => fun _ _ => none
 | k + 1 => fun c s => step E (exec E k) c s
structure Skel where
 st : List (List Nat × List Nat × Option Nat × List Nat)
 anc : List Nat
def resDOp [CtxV] (P : Program) (N : Nat) (ops : Array Oper) (i : Nat) : Option DOp := (ops[i]?).bind fun o => (resOp P N ops o).map fun o => ⟨i, o⟩
def resDOps [CtxV] (P : Program) (N : Nat) (ops : Array Oper) : List Nat → Option (List DOp)
 | [] => some []
 | i :: r => (resDOp P N ops i).bind fun d => (resDOps P N ops r).map fun l => d :: l
def resDR [CtxV] (P : Program) (N : Nat) (ops : Array Oper) : List (List Nat × List Nat × Option Nat × List Nat) → Option DR
 | [] => some []
 | (rs, pm, mo, re) :: r => (resDOps P N ops rs).bind fun rs => (resDOps P N ops re).bind fun re =>
  match mo with
  | none => (resDR P N ops r).map fun l => ⟨rs, pm, none, re⟩ :: l
  | some i => (resDOp P N ops i).bind fun d => (resDR P N ops r).map fun l => ⟨rs, pm, some d, re⟩ :: l
def resRes (P : Program) : List ResultVar → Option (List RR)
 | [] => some []
 | .tmp t :: r => (resRes P r).map fun l => .t t :: l
 | .cell a t :: r => (aggT P t).bind fun g => (szOf P t).bind fun n => (resRes P r).map fun l => .c a n g :: l
end Go.Fm
namespace Go.Fm
def xsPs (ps : List (Nat × Nat × X)) : List X := ps.map (·.2.2)
def xsP : PO → List X
 | .mv x | .slData x | .neg x | .inv x | .not x | .convI _ _ x | .convS x | .fieldA _ x | .field _ _ _ x | .ext x _ | .lenS x | .lenStr x | .capS x | .nilck x | .mkIf _ x | .arrAt _ x | .nilop _ _ x => [x]
 | .pick c a b => [c, a, b]
 | .build _ ps => xsPs ps
 | .arrEq _ _ _ x y | .ptrEq _ x y | .bin _ _ x y | .shift _ _ _ x y | .strop _ x y | .boolop _ x y | .idxA _ _ x y | .idxS _ x y | .idxV _ _ _ x y | .idxStr x y => [x, y]
 | .slS _ x l h m => [x] ++ l.toList ++ h.toList ++ m.toList
 | .slStr x l h => [x] ++ l.toList ++ h.toList
 | .lenC _ => []
 | .mm _ _ x r => x :: r
 | .mkFn _ a b => a ++ b
def xsM : MO → List X
 | .load _ _ x | .box x _ | .range x | .next x | .toU x | .frU _ x | .toB x | .toS x | .clr _ _ x => [x]
 | .slArr _ _ x l h => [x] ++ l.toList ++ h.toList
 | .alloc .. | .mkMap => []
 | .mapSet x k v => [x, k, v]
 | .lookup _ _ x k => [x, k]
 | .buildSl _ _ _ ps _ => xsPs ps
 | .uStr _ x y | .appZ _ _ _ x y _ | .store _ x y | .append _ _ _ x y _ | .copy _ x y | .makeSl _ _ _ x y _ => [x, y]
def xsRO : RO → List X
 | .p q => xsP q
 | .m q => xsM q
 | .call _ xs => xs
 | .callv x xs => x :: xs
 | .inv _ x xs => x :: xs
 | .bad => []
def tmpX : X → Option Nat
 | .t i => some i
 | .c _ => none
def reads (o : ROp) : List Nat := (match o.g with
 | some (d, _) => [d]
 | none => []) ++ (xsRO o.op).filterMap tmpX
section
variable {t t' : Tr 3 V}
theorem fillX_congr : ∀ {ps : List (Nat × Nat × X)} {cs : List V}, (∀ x ∈ xsPs ps, val t x = val t' x) → fillX t cs ps = fillX t' cs ps
 | [], _, _ => rfl
 | (o, n, x) :: r, cs, h => by
  simp only [fillX]
  rw [h x (by simp [xsPs])]
  have ih : ∀ cs, fillX t cs r = fillX t' cs r := fun cs => fillX_congr fun y hy => h y (by simp only [xsPs, List.map_cons, List.mem_cons]; exact .inr hy)
  simp only [ih]
theorem optI_congr {d : Int} {o : Option X} (h : ∀ x ∈ o.toList, val t x = val t' x) : optI t d o = optI t' d o := by
 cases o with
 | none => rfl
 | some x => simp only [optI]; rw [h x (by simp)]
theorem mmX_congr {b : Bool} {k : IntKind} : ∀ {r : List X} {a : Int}, (∀ x ∈ r, val t x = val t' x) → mmX b k t a r = mmX b k t' a r
 | [], _, _ => rfl
 | x :: r, a, h => by
  simp only [mmX]
  rw [h x (by simp)]
  have ih : ∀ a, mmX b k t a r = mmX b k t' a r := fun a => mmX_congr fun y hy => h y (by simp [hy])
  simp only [ih]
theorem map_congr {l : List X} (h : ∀ x ∈ l, val t x = val t' x) : l.map (val t) = l.map (val t') := List.map_congr_left h
theorem evP_congr {p : PO} (h : ∀ x ∈ xsP p, val t x = val t' x) : evP p t = evP p t' := by
 cases p with
 | build z ps => simp only [evP, fillX_congr (ps := ps) h]
 | slS sz x lo hi mx =>
  have h1 := h x (by simp [xsP])
  have h2 := optI_congr (d := 0) (o := lo) fun y hy => h y (by simp only [xsP, List.mem_append]; exact .inl (.inl (.inr hy)))
  have h3 : ∀ d, optI t d hi = optI t' d hi := fun d => optI_congr fun y hy => h y (by simp only [xsP, List.mem_append]; exact .inl (.inr hy))
  have h4 : ∀ m, mx = some m → val t m = val t' m := fun m hm => h m (by simp [xsP, hm])
  simp only [evP, h1, h2, h3]
  cases mx with
  | none => rfl
  | some m => simp only [h4 m rfl]
 | slStr x lo hi =>
  have h1 := h x (by simp [xsP])
  have h2 := optI_congr (d := 0) (o := lo) fun y hy => h y (by simp only [xsP, List.mem_append]; exact .inl (.inr hy))
  have h3 : ∀ d, optI t d hi = optI t' d hi := fun d => optI_congr fun y hy => h y (by simp only [xsP, List.mem_append]; exact .inr hy)
  simp only [evP, h1, h2, h3]
 | mm b k x r =>
  have h1 := h x (by simp [xsP])
  have h2 : ∀ a, mmX b k t a r = mmX b k t' a r := fun a => mmX_congr fun y hy => h y (by simp [xsP, hy])
  simp only [evP, h1, h2]
 | mkFn f a b =>
  have h1 := map_congr (l := a) fun y hy => h y (by simp [xsP, hy])
  have h2 := map_congr (l := b) fun y hy => h y (by simp [xsP, hy])
  simp only [evP, h1, h2]
 | lenC n => rfl
 | pick c a b => simp only [evP, h c (by simp [xsP]), h a (by simp [xsP]), h b (by simp [xsP])]
 | _ =>
  first
   | (rename_i x y; simp only [evP, h x (by simp [xsP]), h y (by simp [xsP])]; done)
   | (rename_i x; simp only [evP, h x (by simp [xsP])]; done)
   | (rename_i x _; simp only [evP, h x (by simp [xsP])]; done)
theorem evM_congr {q : MO} {m : Mem} {n : Nat} (h : ∀ x ∈ xsM q, val t x = val t' x) : evM q t m n = evM q t' m n := by
 cases q with
 | buildSl z len sz ps T => simp only [evM, fillX_congr (ps := ps) h]
 | slArr len sz x lo hi =>
  have h1 := h x (by simp [xsM])
  have h2 := optI_congr (d := 0) (o := lo) fun y hy => h y (by simp only [xsM, List.mem_append]; exact .inl (.inr hy))
  have h3 : ∀ d, optI t d hi = optI t' d hi := fun d => optI_congr fun y hy => h y (by simp only [xsM, List.mem_append]; exact .inr hy)
  simp only [evM, h1, h2, h3]
 | alloc z T => rfl
 | mkMap => rfl
 | toS x => simp only [evM, h x (by simp [xsM])]
 | append z sz b x y T => simp only [evM, h x (by simp [xsM]), h y (by simp [xsM])]
 | appZ z sz b x y T => simp only [evM, h x (by simp [xsM]), h y (by simp [xsM])]
 | makeSl z sz b x y T => simp only [evM, h x (by simp [xsM]), h y (by simp [xsM])]
 | box x T => simp only [evM, h x (by simp [xsM])]
 | mapSet x k v => simp only [evM, h x (by simp [xsM]), h k (by simp [xsM]), h v (by simp [xsM])]
 | _ =>
  first
   | (rename_i x y T; simp only [evM, h x (by simp [xsM]), h y (by simp [xsM])]; done)
   | (rename_i x T; simp only [evM, h x (by simp [xsM])]; done)
   | (rename_i x y; simp only [evM, h x (by simp [xsM]), h y (by simp [xsM])]; done)
   | (rename_i x; simp only [evM, h x (by simp [xsM])]; done)
theorem evOp_congr {call : CE} {o : RO} {m : Mem} {n : Nat} (h : ∀ x ∈ xsRO o, val t x = val t' x) : evOp call o ⟨t, m, n⟩ = evOp call o ⟨t', m, n⟩ := by
 cases o with
 | p q => simp only [evOp, evP_congr (p := q) h]
 | m q => simp only [evOp, evM_congr (q := q) h]
 | call f xs => simp only [evOp, map_congr (l := xs) h]
 | callv x xs =>
  have h1 := h x (by simp [xsRO])
  have h2 := map_congr (l := xs) fun y hy => h y (by simp [xsRO, hy])
  simp only [evOp, h1, h2]
 | inv tbl x xs =>
  have h1 := h x (by simp [xsRO])
  have h2 := map_congr (l := xs) fun y hy => h y (by simp [xsRO, hy])
  simp only [evOp, h1, h2]
 | bad => rfl
theorem evR_congr {E : Env} {o : RO} {m : Mem} (h : ∀ x ∈ xsRO o, val t x = val t' x) : evR E o t m = evR E o t' m := by
 cases o with
 | p q => simp only [evR, evP_congr (p := q) h]
 | m q =>
  have e : ∀ n, evM q t m n = evM q t' m n := fun n => evM_congr h
  cases q <;> first | rfl | simp only [evR, e]
 | call f xs => simp only [evR, map_congr (l := xs) h]
 | callv x xs => rfl
 | inv tbl x xs => rfl
 | bad => rfl
theorem evA_congr {o : RO} {n : Nat} (h : ∀ x ∈ xsRO o, val t x = val t' x) : evA o t n = evA o t' n := by
 cases o with
 | m q =>
  cases q with
  | box x T => simp only [evA, h x (by simp [xsRO, xsM])]
  | buildSl z len sz ps T => simp only [evA, fillX_congr (ps := ps) h]
  | makeSl z sz b l c T => simp only [evA, h l (by simp [xsRO, xsM]), h c (by simp [xsRO, xsM])]
  | _ => rfl
 | _ => rfl
def Agree (o : ROp) (t t' : Tr 3 V) : Prop := ∀ i ∈ reads o, t.get i = t'.get i
theorem Agree.xs {o : ROp} (h : Agree o t t') : ∀ x ∈ xsRO o.op, val t x = val t' x := by
 intro x hx
 cases x with
 | c v => rfl
 | t i =>
  simp only [val]
  rw [h i (List.mem_append_right _ (List.mem_filterMap.2 ⟨.t i, hx, rfl⟩))]
theorem Agree.want {o : ROp} (h : Agree o t t') : wantG t o.g = wantG t' o.g := by
 have h' := fun d hd => h d (List.mem_append_left _ hd)
 cases hg : o.g with
 | none => rfl
 | some p =>
  obtain ⟨d, want⟩ := p
  rw [hg] at h'
  simp only [wantG]
  rw [h' d (by simp)]
end
end Go.Fm
namespace Go.Fm
section
variable [Ctx] {P : Program} {β β' : Nat → Nat × Nat} {kn kn' : Nat → Prop} {t : Tr 3 V} {a : Act} {N : Nat} {ds : List Deferred} {m m' : Mem} {w w' : World} {n n' : Nat} {v : V}
structure MSr (β : Nat → Nat × Nat) (kn : Nat → Prop) (R : Nat → B → Prop) (w : World) : Prop where
 blk : ∀ id b, R id b → kn id ∧ BR β kn (β id).2 b (w.heap[(β id).1]?)
 inj : ∀ i j b c, R i b → R j c → (β i).1 = (β j).1 → i = j
 gl : ∀ q ∈ Ctx.gl, w.heap[q.1]? = some q.2 ∧ ∀ id c, R id c → (β id).1 ≠ q.1
structure Frr (β : Nat → Nat × Nat) (R : Nat → B → Prop) (w : World) (β' : Nat → Nat × Nat) (R' : Nat → B → Prop) (w' : World) : Prop where
 os : w'.os = w.os
 tape : w'.tape = w.tape
 output : w'.output = w.output
 size : w.heap.size ≤ w'.heap.size
 block : ∀ b, b < w.heap.size → (∀ id c, R id c → (β id).1 ≠ b) → w'.heap[b]? = w.heap[b]?
 grow : ∀ id c, R' id c → (∃ j d, R j d ∧ (β j).1 = (β' id).1) ∨ w.heap.size ≤ (β' id).1
def Rm (m : Mem) : Nat → B → Prop := fun id b => m.get id = some b
theorem MSr.sub {R R' : Nat → B → Prop} (h : MSr β kn R w) (hs : ∀ id b, R' id b → R id b) : MSr β kn R' w := ⟨fun id b e => h.blk id b (hs id b e), fun i j b c e1 e2 => h.inj i j b c (hs i b e1) (hs j c e2), fun q hq => ⟨(h.gl q hq).1, fun id c e => (h.gl q hq).2 id c (hs id c e)⟩⟩
theorem MSr.ms (h : MSr β kn (Rm m) w) : MS β kn m w := ⟨h.blk, h.inj, h.gl⟩
theorem MS.msr (h : MS β kn m w) : MSr β kn (Rm m) w := ⟨h.blk, h.inj, h.gl⟩
theorem Frr.trans {β1 β2 β3 : Nat → Nat × Nat} {R1 R2 R3 : Nat → B → Prop} {w1 w2 w3 : World} (h : Frr β1 R1 w1 β2 R2 w2) (h' : Frr β2 R2 w2 β3 R3 w3) : Frr β1 R1 w1 β3 R3 w3 := by
 refine ⟨h'.os.trans h.os, h'.tape.trans h.tape, h'.output.trans h.output, Nat.le_trans h.size h'.size, fun b hb hn => ?_, fun id c hc => ?_⟩
 ·rw [h'.block b (Nat.lt_of_lt_of_le hb h.size) (fun id c hc he => ?_), h.block b hb hn]
  rcases h.grow id c hc with ⟨j, d, h1, h2⟩ | h1
  ·exact hn j d h1 (by rw [h2, he])
  ·omega
 ·rcases h'.grow id c hc with ⟨j, d, h1, h2⟩ | h1
  ·rcases h.grow j d h1 with ⟨i, e, h3, h4⟩ | h3
   ·exact .inl ⟨i, e, h3, by rw [h4, h2]⟩
   ·exact .inr (by rw [← h2]; exact h3)
  ·exact .inr (Nat.le_trans h.size h1)
theorem Frr.shrink {β1 β2 : Nat → Nat × Nat} {R1 R2 R3 : Nat → B → Prop} {w1 w2 : World} (h : Frr β1 R1 w1 β2 R2 w2) (hs : ∀ id b, R3 id b → R2 id b) : Frr β1 R1 w1 β2 R3 w2 :=
 ⟨h.os, h.tape, h.output, h.size, h.block, fun id c hc => h.grow id c (hs id c hc)⟩
theorem MSr.frame {R : Nat → B → Prop} (h : MSr β kn R w) (hsub : ∀ id b, m.get id = some b → R id b) (hg : Goes β kn m w β' kn' m' w') :
  MSr β' kn' (fun id b => m'.get id = some b ∨ (R id b ∧ m.get id = none)) w' ∧ Frr β R w β' (fun id b => m'.get id = some b ∨ (R id b ∧ m.get id = none)) w' := by
 have hrest : ∀ id b, R id b → m.get id = none → β' id = β id ∧ kn' id ∧ w'.heap[(β id).1]? = w.heap[(β id).1]? ∧ (β id).1 < w.heap.size := by
  intro id b hR hn
  obtain ⟨h1, h2⟩ := h.blk id b hR
  obtain ⟨h3, h4⟩ := hg.ext id h1
  refine ⟨h4, h3, hg.fr.block _ h2.lt (fun j c hj he => ?_), h2.lt⟩
  have := h.inj j id c b (hsub j c hj) hR he
  subst this
  rw [hn] at hj; cases hj
 refine ⟨⟨fun id b hb => ?_, fun i j b c hb hc he => ?_, fun q hq => ?_⟩, ⟨hg.fr.os, hg.fr.tape, hg.fr.output, hg.fr.size, fun b hb hno => hg.fr.block b hb fun id c hc => hno id c (hsub id c hc), fun id c hc => ?_⟩⟩
 ·rcases hb with hb | ⟨hb, hn⟩
  ·exact hg.ms.blk id b hb
  ·obtain ⟨h1, h2, h3, _⟩ := hrest id b hb hn
   refine ⟨h2, ?_⟩
   rw [h1, h3]
   exact (h.blk id b hb).2.mono hg.ext
 ·have mixed : ∀ i j b c, m'.get i = some b → R j c → m.get j = none → (β' i).1 = (β' j).1 → i = j := by
   intro i j b c hb hc hn he
   obtain ⟨h1, _, _, h4⟩ := hrest j c hc hn
   rw [h1] at he
   rcases hg.fr.grow i b hb with ⟨k, d, h5, h6⟩ | h5
   ·have := h.inj k j d c (hsub k d h5) hc (by rw [h6, he])
    subst this
    rw [hn] at h5; cases h5
   ·omega
  rcases hb with hb | ⟨hb, hbn⟩ <;> rcases hc with hc | ⟨hc, hcn⟩
  ·exact hg.ms.inj i j b c hb hc he
  ·exact mixed i j b c hb hc hcn he
  ·exact (mixed j i c b hc hb hbn he.symm).symm
  ·rw [(hrest i b hb hbn).1, (hrest j c hc hcn).1] at he
   exact h.inj i j b c hb hc he
 ·obtain ⟨q1, q2⟩ := h.gl q hq
  refine ⟨by rw [hg.fr.block _ (heap_lt q1) (fun id c hc => q2 id c (hsub id c hc))]; exact q1, fun id c hc => ?_⟩
  rcases hc with hc | ⟨hc, hn⟩
  ·exact (hg.ms.gl q hq).2 id c hc
  ·rw [(hrest id c hc hn).1]; exact q2 id c hc
 ·rcases hc with hc | ⟨hc, hn⟩
  ·rcases hg.fr.grow id c hc with ⟨j, d, h1, h2⟩ | h1
   ·exact .inl ⟨j, d, hsub j d h1, h2⟩
   ·exact .inr h1
  ·exact .inl ⟨id, c, hc, by rw [(hrest id c hc hn).1]⟩
end
inductive Item where
 | ra (d : DOp)
 | mo (d : DOp) (pm : List Nat) (re : List DOp)
def Item.d : Item → DOp
 | .ra d => d
 | .mo d _ _ => d
def Item.isM : Item → Bool
 | .ra _ => false
 | .mo .. => true
def run1 (E : Env) (call : CE) (it : Item) (s : DSt) : Option DSt :=
 match it with
 | .ra d => stepRA E d s
 | .mo d pm re => (setAll s.m (s.pend.filter fun p => pm.contains p.1)).bind fun m => (runOp call d.o ⟨s.t, m, s.n⟩).bind fun u =>
   bif recheck E u.t u.m re then some ⟨u.t, u.m, u.n, s.pend.filter fun p => !pm.contains p.1⟩ else none
def runIs (E : Env) (call : CE) : List Item → DSt → Option DSt
 | [], s => some s
 | it :: r, s => (run1 E call it s).bind (runIs E call r)
def flatDR : DR → List Item
 | [] => []
 | g :: r => g.rs.map .ra ++ match g.mo with
  | none => []
  | some d => .mo d g.pm g.re :: flatDR r
def finDR (s : DSt) : Option St := (setAll s.m s.pend).map fun m => ⟨s.t, m, s.n⟩
theorem runIs_append (E : Env) (call : CE) : ∀ (l r : List Item) (s : DSt), runIs E call (l ++ r) s = (runIs E call l s).bind (runIs E call r)
 | [], _, _ => rfl
 | it :: l, r, s => by
  simp only [List.cons_append, runIs]
  cases run1 E call it s with
  | none => rfl
  | some s => simp only [Option.bind_some]; exact runIs_append E call l r s
theorem runIs_ra (E : Env) (call : CE) : ∀ (l : List DOp) (s : DSt), runIs E call (l.map .ra) s = stepRAs E l s
 | [], _ => rfl
 | d :: l, s => by
  simp only [List.map_cons, runIs, run1, stepRAs]
  cases stepRA E d s with
  | none => rfl
  | some s => simp only [Option.bind_some]; exact runIs_ra E call l s
theorem runDR_eq (E : Env) (call : CE) : ∀ (d : DR) (s : DSt), runDR E call d s = (runIs E call (flatDR d) s).bind finDR
 | [], s => rfl
 | g :: r, s => by
  simp only [runDR, flatDR, runIs_append, runIs_ra]
  cases stepRAs E g.rs s with
  | none => rfl
  | some s =>
   dsimp only [Option.bind_some]
   cases g.mo with
   | none => rfl
   | some d =>
    simp only [runIs, run1]
    cases setAll s.m (s.pend.filter fun p => g.pm.contains p.1) with
    | none => rfl
    | some m =>
     simp only [Option.bind_some]
     cases runOp call d.o ⟨s.t, m, s.n⟩ with
     | none => rfl
     | some u =>
      simp only [Option.bind_some]
      cases recheck E u.t u.m g.re with
      | false => rfl
      | true => simp only [cond_true, Option.bind_some]; exact runDR_eq E call r _
theorem runIs_states {E : Env} {call : CE} : ∀ {l : List Item} {s s' : DSt}, runIs E call l s = some s' → ∃ σ : Nat → DSt, σ 0 = s ∧ σ l.length = s' ∧ ∀ p it, l[p]? = some it → run1 E call it (σ p) = some (σ (p + 1))
 | [], s, s', h => by
  simp [runIs] at h; subst h
  exact ⟨fun _ => s, rfl, rfl, by simp⟩
 | it :: l, s, s', h => by
  simp only [runIs, oBs] at h
  obtain ⟨s1, h1, h⟩ := h
  obtain ⟨σ, h2, h3, h4⟩ := runIs_states h
  refine ⟨fun p => match p with
   | 0 => s
   | p + 1 => σ p, rfl, h3, fun p it' e => ?_⟩
  cases p with
  | zero => simp at e; subst e; show run1 E call it s = some (σ 0); rw [h2]; exact h1
  | succ p => exact h4 p it' (by simpa using e)
end Go.Fm
namespace Go.Fm
section
variable {E : Env} {call : CE} {t t1 : Tr 3 V} {v : V}
theorem putT_any {dst : Option Nat} (h : putT t dst v = some t1) (u : Tr 3 V) : ∃ u', putT u dst v = some u' := by
  cases dst with
  | none => exact ⟨u, rfl⟩
  | some d => exact Tr.set_any (f := fuel) h u _
theorem putT_get {dst : Option Nat} (h : putT t dst v = some t1) (i : Nat) : t1.get i = if dst = some i then some v else t.get i := by
  cases dst with
  | none => simp [putT] at h; subst h; simp
  | some d =>
    simp only [putT] at h
    rw [Tr.get_set h]
    by_cases hi : i = d
    · subst hi; simp
    · rw [if_neg hi, if_neg (by simpa using Ne.symm hi)]
def Nat' (E : Env) (call : CE) : Prop := ∀ f F vs v m n, E.nat.get f = some F → F vs = some v → call (.f f) vs m n = some (v, m, n)
theorem evR_evOp (hn : Nat' E call) {o : RO} {m : Mem} (h : evR E o t m = some v) (n : Nat) : evOp call o ⟨t, m, n⟩ = some (v, m, n) := by
  cases o with
  | p q => simp only [evR] at h; simp only [evOp, h, Option.map_some]
  | m q =>
    cases q <;> simp only [evR, reduceCtorEq, oMs] at h
    · rename_i sz g x
      obtain ⟨⟨v', m', n'⟩, h1, rfl⟩ := h
      simp only [evOp]
      simp only [evM] at h1 ⊢
      split at h1
      · split at h1
        · have hb := (bif_none h1).1
          replace h1 := (bif_none h1).2
          simp only [oMs, pMi] at h1
          obtain ⟨w, h2, rfl, rfl, rfl⟩ := h1
          simp [hb, h2]
        · simp at h1
      · simp at h1
    · rename_i len sz x lo hi
      obtain ⟨⟨v', m', n'⟩, h1, rfl⟩ := h
      simp only [evOp]
      simp only [evM] at h1 ⊢
      split at h1
      · split at h1
        · have hb := (bif_none h1).1
          replace h1 := (bif_none h1).2
          simp only [oBs] at h1
          obtain ⟨u, h2, l, h3, h1⟩ := h1
          have hb2 := (bif_none h1).1
          replace h1 := (bif_none h1).2
          simp only [oSi, pMi] at h1
          obtain ⟨rfl, rfl, rfl⟩ := h1
          simp only [hb, h2, h3, hb2, cond_true, Option.bind_some]
        · simp at h1
      · simp at h1
    · rename_i z ok x k
      obtain ⟨⟨v', m', n'⟩, h1, rfl⟩ := h
      simp only [evOp]
      simp only [evM, oBs, oSi, pMi] at h1
      obtain ⟨es, h2, s, h3, rfl, rfl, rfl⟩ := h1
      simp only [evM, h2, h3, Option.bind_some]
  | call f xs =>
    simp only [evR, oBs] at h
    obtain ⟨F, h1, h2⟩ := h
    simp only [evOp]
    exact hn f F _ v m n h1 h2
  | callv x xs => simp [evR] at h
  | inv tbl x xs => simp [evR] at h
  | bad => simp [evR] at h
theorem evA_evOp {o : RO} {n : Nat} {b : B} {k : V} (h : evA o t n = some (some (b, k))) (m : Mem) : evOp call o ⟨t, m, n⟩ = newK m n b k := by
  cases o with
  | m q =>
    cases q <;> simp only [evA, oSi, pMi, reduceCtorEq] at h
    · obtain ⟨rfl, rfl⟩ := h; rfl
    · simp only [oMs, pMi] at h
      obtain ⟨cs', h1, rfl, rfl⟩ := h
      simp only [evOp, evM, h1, Option.bind_some]; rfl
    · have hb := (bif_none h).1
      replace h := (bif_none h).2
      simp only [oMs, pMi] at h
      obtain ⟨cs', h1, rfl, rfl⟩ := h
      simp only [evOp, evM, hb, h1, cond_true, Option.bind_some]; rfl
    · simp only [oBs] at h
      obtain ⟨l, h1, c, h2, h⟩ := h
      have hb := (bif_none h).1
      replace h := (bif_none h).2
      simp only [oSi, pMi] at h
      obtain ⟨rfl, rfl⟩ := h
      simp only [evOp, evM, h1, h2, hb, cond_true, Option.bind_some]; rfl
    · obtain ⟨rfl, rfl⟩ := h; rfl
  | _ => simp [evA] at h
theorem evA_map {o : RO} {n : Nat} {b : B} {k : V} (h : evA o t n = some (some (b, k))) : ∀ es, b = .map es → es = [] ∧ o = .m .mkMap := by
  rintro es rfl
  cases o with
  | m q =>
    cases q <;> simp only [evA, oSi, pMi, reduceCtorEq, false_and] at h
    · simp at h
    · replace h := (bif_none h).2; simp at h
    · simp only [oBs] at h
      obtain ⟨l, h1, c, h2, h⟩ := h
      replace h := (bif_none h).2; simp at h
    · obtain ⟨h, _⟩ := h
      injection h with h; exact ⟨h.symm, rfl⟩
  | _ => simp [evA] at h
theorem runOp_want {o : ROp} {s : St} : runOp call o s = match wantG s.t o.g with
    | some true => doOp call o s
    | some false => (putT s.t o.dst (.tup [])).map fun t => { s with t }
    | none => none := by
  unfold runOp wantG
  cases o.g with
  | none => rfl
  | some p =>
    obtain ⟨d, want⟩ := p
    dsimp only
    generalize s.t.get d = q
    cases q with
    | none => rfl
    | some v =>
      cases v with
      | bool b => cases b <;> cases want <;> rfl
      | tup vs => cases vs <;> rfl
      | _ => rfl
theorem runOp_skip {o : ROp} {m : Mem} {n : Nat} (h : wantG t o.g = some false) (hp : putT t o.dst (.tup []) = some t1) : runOp call o ⟨t, m, n⟩ = some ⟨t1, m, n⟩ := by
  rw [runOp_want]; simp only [h, hp, Option.map_some]
theorem runOp_do {o : ROp} {m m' : Mem} {n n' : Nat} (h : wantG t o.g = some true) (he : evOp call o.op ⟨t, m, n⟩ = some (v, m', n')) (hp : putT t o.dst v = some t1) : runOp call o ⟨t, m, n⟩ = some ⟨t1, m', n'⟩ := by
  rw [runOp_want]; simp only [h, doOp, he, Option.bind_some, hp, Option.map_some]
inductive RAcase (E : Env) (call : CE) (d : DOp) (s s' : DSt) (u u' : Tr 3 V) : Prop
  | read (hns : ¬ (isMs d.o.op = true ∧ wantG s.t d.o.g = some true)) (hm : s'.m = s.m) (hn : s'.n = s.n) (hp : s'.pend = s.pend) (hv : wantG s.t d.o.g = some true → ∃ v, evR E d.o.op s.t s.m = some v ∧ putT s.t d.o.dst v = some s'.t)
      (h : ∀ m, (∀ q, d.o.op = .m q → wantG s.t d.o.g = some true → evR E d.o.op s.t m = evR E d.o.op s.t s.m) → runOp call d.o ⟨u, m, s.n⟩ = some ⟨u', m, s.n⟩)
  | made (cs : B) (hns : ¬ (isMs d.o.op = true ∧ wantG s.t d.o.g = some true)) (hmk : ∀ es, cs = .map es → es = [] ∧ d.o.op = .m .mkMap) (hm : s'.m = s.m) (hn : s'.n = s.n + 1) (hp : s'.pend = (d.i, s.n, cs) :: s.pend) (m1 : Mem) (hg : ∀ id, m1.get id = if id = s.n then some cs else none)
      (h : runOp call d.o ⟨u, .nil, s.n⟩ = some ⟨u', m1, s.n + 1⟩)
  | mset (id : Nat) (k : ByteArray) (v : V) (es : List (ByteArray × V)) (hms : isMs d.o.op = true) (hw : wantG s.t d.o.g = some true) (ha : msArgs d.o.op s.t = some (id, k, v)) (he : pendMap id s.pend = some es) (hf : findS k es = none)
      (hm : s'.m = s.m) (hn : s'.n = s.n) (hp : s'.pend = pendPut id (es ++ [(k, v)]) s.pend)
      (h : ∀ fs m m', m.get id = some (.map fs) → Tr.set fuel m id (some (.map (putS k v fs))) = some m' → runOp call d.o ⟨u, m, s.n⟩ = some ⟨u', m', s.n⟩)
theorem evR_mem {o : RO} (h : ∀ q, o ≠ .m q) (t : Tr 3 V) (m m' : Mem) : evR E o t m = evR E o t m' := by
  cases o with
  | m q => exact absurd rfl (h q)
  | _ => rfl
theorem stepRA_case (hn : Nat' E call) {d : DOp} {s s' : DSt} (h : stepRA E d s = some s') {u : Tr 3 V} (ha : Agree d.o u s.t) :
    ∃ v u', putT s.t d.o.dst v = some s'.t ∧ putT u d.o.dst v = some u' ∧ RAcase E call d s s' u u' := by
  have hw := ha.want
  have hx := ha.xs
  unfold stepRA at h
  split at h
  · simp at h
  · rename_i hg
    simp only [oMs] at h
    obtain ⟨t1, h1, rfl⟩ := h
    obtain ⟨u', h2⟩ := putT_any h1 u
    exact ⟨_, u', h1, h2, .read (fun h => by rw [hg] at h; cases h.2) rfl rfl rfl (fun h => by rw [hg] at h; cases h) fun m _ => runOp_skip (by rw [hw]; exact hg) h2⟩
  · rename_i hg
    cases hms : isMs d.o.op with
    | true =>
      rw [hms] at h
      simp only [cond_true, stepMs, oBs] at h
      obtain ⟨⟨id, k, v⟩, ha, es, he, h⟩ := h
      dsimp only at he h
      have hf := (bif_none h).1
      replace h := (bif_none h).2
      simp only [oMs] at h
      obtain ⟨t1, h1, rfl⟩ := h
      obtain ⟨u', h2⟩ := putT_any h1 u
      refine ⟨_, u', h1, h2, .mset id k v es hms hg ha he (by simpa using hf) rfl rfl rfl fun fs m m' hmf hset => runOp_do (by rw [hw]; exact hg) ?_ h2⟩
      have hxs : msArgs d.o.op u = some (id, k, v) := by
        rw [← ha]
        cases hop : d.o.op with
        | m q =>
          rw [hop] at hx
          cases q with
          | mapSet x kk y => simp only [msArgs, hx x (by simp [xsRO, xsM]), hx kk (by simp [xsRO, xsM]), hx y (by simp [xsRO, xsM])]
          | _ => rfl
        | _ => rfl
      cases hop : d.o.op with
      | m q =>
        rw [hop] at hxs
        cases q with
        | mapSet x kk y =>
          simp only [msArgs] at hxs
          split at hxs
          · rename_i id' hv
            simp only [oMs, pMi] at hxs
            obtain ⟨s', hs', rfl, rfl, rfl⟩ := hxs
            simp only [evOp, evM, hv, hmf, hs', Option.bind_some, hset, Option.map_some]
          · simp at hxs
        | _ => simp [msArgs] at hxs
      | _ => rw [hop] at hxs; simp [msArgs] at hxs
    | false =>
    rw [hms] at h
    simp only [cond_false] at h
    have hns : ¬ (isMs d.o.op = true ∧ wantG s.t d.o.g = some true) := fun h => by rw [hms] at h; cases h.1
    split at h
    · simp at h
    · rename_i cs k hA
      have hlt := (bif_none h).1
      replace h := (bif_none h).2
      simp only [oMs] at h
      obtain ⟨t1, h1, rfl⟩ := h
      obtain ⟨u', h2⟩ := putT_any h1 u
      have hlt : s.n < 262144 := nLb hlt
      obtain ⟨m1, hm1⟩ := Tr.set_ok (f := fuel) (k := s.n) (by have : (8 : Nat) ^ 6 = 262144 := by decide
                                                               omega) (.nil : Mem) (some cs)
      refine ⟨k, u', h1, h2, .made cs hns (evA_map hA) rfl rfl rfl m1 (fun id => ?_) (runOp_do (by rw [hw]; exact hg) ?_ h2)⟩
      · rw [Tr.get_set hm1, Tr.get_nil]
      · have := evA_evOp (call := call) (by rw [evA_congr hx]; exact hA : evA d.o.op u s.n = some (some (cs, k))) .nil
        rw [this]
        simp only [newK, hm1, Option.map_some]
    · simp only [oBs, oMs] at h
      obtain ⟨v, hv, t1, h1, rfl⟩ := h
      obtain ⟨u', h2⟩ := putT_any h1 u
      refine ⟨v, u', h1, h2, .read hns rfl rfl rfl (fun _ => ⟨v, hv, h1⟩) fun m hm => runOp_do (by rw [hw]; exact hg) (evR_evOp hn ?_ _) h2⟩
      rw [evR_congr hx]
      by_cases hq : ∃ q, d.o.op = .m q
      · obtain ⟨q, hq⟩ := hq
        rw [hm q hq hg]; exact hv
      · rw [evR_mem (fun q h => hq ⟨q, h⟩) s.t m s.m]; exact hv
theorem runOp_agree {o : ROp} {m : Mem} {n : Nat} {r : St} (h : runOp call o ⟨t, m, n⟩ = some r) {u : Tr 3 V} (ha : Agree o u t) : ∃ v u', putT t o.dst v = some r.t ∧ putT u o.dst v = some u' ∧ runOp call o ⟨u, m, n⟩ = some ⟨u', r.m, r.n⟩ := by
  have hw := ha.want
  have hx := ha.xs
  rw [runOp_want] at h
  dsimp only at h
  split at h
  · rename_i hg
    simp only [doOp, oBs, oMs] at h
    obtain ⟨⟨v, m1, n1⟩, h1, t1, h2, rfl⟩ := h
    obtain ⟨u', h3⟩ := putT_any h2 u
    exact ⟨v, u', h2, h3, runOp_do (by rw [hw]; exact hg) (by rw [evOp_congr hx]; exact h1) h3⟩
  · rename_i hg
    simp only [oMs] at h
    obtain ⟨t1, h2, rfl⟩ := h
    obtain ⟨u', h3⟩ := putT_any h2 u
    exact ⟨_, u', h2, h3, runOp_skip (by rw [hw]; exact hg) h3⟩
  · simp at h
theorem setAll_get : ∀ {l : List (Nat × Nat × B)} {m m' : Mem}, setAll m l = some m' → ∀ id b, m'.get id = some b → m.get id = some b ∨ ∃ i cs, (i, id, cs) ∈ l ∧ b = cs
  | [], m, m', h, id, b, e => by simp [setAll] at h; subst h; exact .inl e
  | (i, k, cs) :: r, m, m', h, id, b, e => by
    simp only [setAll, oBs] at h
    obtain ⟨m1, h1, h2⟩ := h
    rcases setAll_get h2 id b e with h3 | ⟨j, cs', h3, h4⟩
    · rw [Tr.get_set h1] at h3
      by_cases hk : id = k
      · rw [if_pos hk] at h3; injection h3 with h3
        exact .inr ⟨i, cs, by rw [hk]; simp, h3.symm⟩
      · rw [if_neg hk] at h3; exact .inl h3
    · exact .inr ⟨j, cs', by simp [h3], h4⟩
end
end Go.Fm
namespace Go.Fm
def rereads (o : RO) : Bool := match o with
  | .m (.load ..) | .m (.slArr ..) | .m (.lookup ..) => true
  | _ => false
structure DOK [Ctx] (P : Program) (N : Nat) (ops : Array Oper) (items : List Item) (anc : Nat → Nat → Bool) : Prop where
  res : ∀ (p : Nat) (it : Item), items[p]? = some it → ∃ o : Oper, ops[it.d.i]? = some o ∧ resOp P N ops o = some it.d.o
  all : ∀ i, i < ops.size → ∃ (p : Nat) (it : Item), items[p]? = some it ∧ it.d.i = i
  uniq : ∀ (p q : Nat) (it jt : Item), items[p]? = some it → items[q]? = some jt → it.d.i = jt.d.i → p = q
  ancs : ∀ i k, anc i k = true → ∀ o : Oper, ops[i]? = some o → ∃ e ∈ o.after, Region.binds .any e = true ∧ (e.on = k ∨ anc e.on k = true)
  topo : ∀ (p : Nat) (it : Item), items[p]? = some it → ∀ o : Oper, ops[it.d.i]? = some o → ∀ e ∈ o.after, Region.binds .any e = true → ∃ (q : Nat) (jt : Item), q < p ∧ items[q]? = some jt ∧ jt.d.i = e.on
  wr : ∀ (p q : Nat) (it jt : Item) (t : Nat), items[p]? = some it → items[q]? = some jt → p ≠ q → t ∈ reads it.d.o → jt.d.o.dst = some t → (q < p ∧ anc it.d.i jt.d.i = true) ∨ (p < q ∧ anc jt.d.i it.d.i = true)
  ds : ∀ (p q : Nat) (it jt : Item) (t : Nat), items[p]? = some it → items[q]? = some jt → it.d.o.dst = some t → jt.d.o.dst = some t → p = q
  mo : ∀ (p q : Nat) (it jt : Item), items[p]? = some it → items[q]? = some jt → q < p → jt.isM = true → (∀ (r : Nat) (kt : Item), q < r → r < p → items[r]? = some kt → kt.isM = false) → anc it.d.i jt.d.i = true
  re : ∀ (p q : Nat) (d d' : DOp) (pm : List Nat) (re : List DOp), items[p]? = some (.ra d) → items[q]? = some (.mo d' pm re) → p < q → rereads d.o.op = true → anc d'.i d.i = true ∨ d ∈ re
  reW : ∀ (p : Nat) (d : DOp), items[p]? = some (.ra d) → rereads d.o.op = true → ∀ t ∈ reads d.o, d.o.dst ≠ some t ∧ ∀ (q : Nat) (jt : Item), items[q]? = some jt → jt.d.o.dst = some t → q < p
  pm : ∀ (q : Nat) (d : DOp) (pm : List Nat) (re : List DOp), items[q]? = some (.mo d pm re) → ∀ i ∈ pm, anc d.i i = true
  msr : ∀ (p : Nat) (d : DOp), items[p]? = some (.ra d) → isMs d.o.op = true → ∃ (q : Nat) (e : DOp) (k : Nat) (s : V) (v : X), q < p ∧ items[q]? = some (.ra e) ∧ e.o.op = .m .mkMap ∧ e.o.g = none ∧ e.o.dst = some k ∧ d.o.op = .m (.mapSet (.t k) (.c s) v) ∧ anc d.i e.i = true
  mpm : ∀ (q : Nat) (d : DOp) (pm : List Nat) (re : List DOp), items[q]? = some (.mo d pm re) → ∀ (p : Nat) (e : DOp), items[p]? = some (.ra e) → e.o.op = .m .mkMap → e.i ∉ pm
theorem same1_eq {v v' : V} (h : same1 v v' = true) : v = v' := by
  unfold same1 at h
  split at h
  · simp only [Bool.and_eq_true, beq_iff_eq] at h; rw [h.1, h.2]
  · simp only [beq_iff_eq] at h; rw [h]
  · rename_i s s'
    simp only [beq_iff_eq] at h
    have e : s.data = s'.data := Array.ext' h
    cases s; cases s'
    simp only at e
    rw [e]
  · simp only [Bool.and_eq_true, beq_iff_eq] at h; rw [h.1, h.2]
  · rfl
  · simp only [Bool.and_eq_true, beq_iff_eq] at h
    obtain ⟨⟨⟨⟨h1, h2⟩, h3⟩, h4⟩, h5⟩ := h
    rw [h1, h2, h3, h4, h5]
  · rfl
  · simp only [beq_iff_eq] at h; rw [h]
  · rfl
  · rfl
  · rfl
  · simp only [beq_iff_eq] at h; rw [h]
  · simp at h
theorem sameL_eq : ∀ {l l' : List V}, sameL l l' = true → l = l'
  | [], [], _ => rfl
  | [], _ :: _, h => by simp [sameL] at h
  | _ :: _, [], h => by simp [sameL] at h
  | v :: r, v' :: r', h => by
    simp only [sameL, Bool.and_eq_true] at h
    rw [same1_eq h.1, sameL_eq h.2]
theorem same_eq {v v' : V} (h : V.same v v' = true) : v = v' := by
  unfold V.same at h
  split at h
  · rw [sameL_eq h]
  · rw [sameL_eq h]
  · simp only [Bool.and_eq_true, beq_iff_eq] at h
    rw [h.1.1, sameL_eq h.1.2, sameL_eq h.2]
  · simp only [Bool.and_eq_true, beq_iff_eq] at h
    rw [h.1, same1_eq h.2]
  · exact same1_eq h
section
variable [Ctx] {P : Program} {N : Nat} {ops : Array Oper} {items : List Item} {anc : Nat → Nat → Bool} {E : Env} {call : CE} {σ : Nat → DSt}
structure CS (P : Program) (N : Nat) (ops : Array Oper) (items : List Item) (anc : Nat → Nat → Bool) (E : Env) (call : CE) (σ : Nat → DSt) : Prop where
  ok : DOK P N ops items anc
  cok : CallOk P call
  nat : Nat' E call
  run : ∀ (p : Nat) (it : Item), items[p]? = some it → run1 E call it (σ p) = some (σ (p + 1))
  p0 : (σ 0).pend = []
theorem Agree.rfl' {o : ROp} {t : Tr 3 V} : Agree o t t := fun _ _ => rfl
theorem CS.mo_run (h : CS P N ops items anc E call σ) {p : Nat} {d : DOp} {pm : List Nat} {re : List DOp} (hp : items[p]? = some (.mo d pm re)) :
    ∃ m1 r, setAll (σ p).m ((σ p).pend.filter fun x => pm.contains x.1) = some m1 ∧ runOp call d.o ⟨(σ p).t, m1, (σ p).n⟩ = some r ∧ recheck E r.t r.m re = true ∧
      σ (p + 1) = ⟨r.t, r.m, r.n, (σ p).pend.filter fun x => !pm.contains x.1⟩ := by
  have := h.run p _ hp
  simp only [run1, oBs] at this
  obtain ⟨m1, h1, r, h2, h3⟩ := this
  have h4 := (bif_none h3).1
  replace h3 := (bif_none h3).2
  injection h3 with h3
  exact ⟨m1, r, h1, h2, h4, h3.symm⟩
theorem CS.put (h : CS P N ops items anc E call σ) {p : Nat} {it : Item} (hp : items[p]? = some it) : ∃ v, putT (σ p).t it.d.o.dst v = some (σ (p + 1)).t := by
  cases it with
  | ra d =>
    obtain ⟨v, u', h1, _, _⟩ := stepRA_case h.nat (h.run p _ hp) (u := (σ p).t) Agree.rfl'
    exact ⟨v, h1⟩
  | mo d pm re =>
    obtain ⟨m1, r, _, h2, _, h4⟩ := h.mo_run hp
    obtain ⟨v, u', h5, _, _⟩ := runOp_agree h2 (u := (σ p).t) Agree.rfl'
    exact ⟨v, by rw [h4]; exact h5⟩
theorem CS.step_get (h : CS P N ops items anc E call σ) {p : Nat} {it : Item} (hp : items[p]? = some it) (t : Nat) (ht : it.d.o.dst ≠ some t) : (σ (p + 1)).t.get t = (σ p).t.get t := by
  obtain ⟨v, hv⟩ := h.put hp
  rw [putT_get hv, if_neg ht]
theorem CS.n_step (h : CS P N ops items anc E call σ) {p : Nat} {it : Item} (hp : items[p]? = some it) : (σ p).n ≤ (σ (p + 1)).n := by
  cases it with
  | ra d =>
    obtain ⟨v, u', _, _, hc⟩ := stepRA_case h.nat (h.run p _ hp) (u := (σ p).t) Agree.rfl'
    cases hc with
    | read _ _ hn _ _ _ => omega
    | made _ _ _ _ hn _ _ _ _ => omega
    | mset _ _ _ _ _ _ _ _ _ _ hn _ _ => omega
  | mo d pm re =>
    obtain ⟨m1, r, _, h2, _, h4⟩ := h.mo_run hp
    obtain ⟨o, _, ho⟩ := h.ok.res p _ hp
    have := (runOp_ok h.cok ho h2).1.1
    rw [h4]; exact this
theorem CS.n_mono (h : CS P N ops items anc E call σ) {p : Nat} : ∀ {q : Nat}, p ≤ q → q ≤ items.length → (σ p).n ≤ (σ q).n := by
  intro q hpq hq
  induction q with
  | zero => obtain rfl : p = 0 := by omega
            exact Nat.le_refl _
  | succ q ih =>
    rcases Nat.lt_or_ge q p with hlt | hge
    · obtain rfl : p = q + 1 := by omega
      exact Nat.le_refl _
    · have := h.n_step (p := q) (it := items[q]) (by simp)
      exact Nat.le_trans (ih hge (by omega)) this
theorem CS.get_keep (h : CS P N ops items anc E call σ) {p t : Nat} : ∀ {q : Nat}, p ≤ q → q ≤ items.length → (∀ (r : Nat) (jt : Item), p ≤ r → r < q → items[r]? = some jt → jt.d.o.dst ≠ some t) → (σ q).t.get t = (σ p).t.get t := by
  intro q hpq hq hno
  induction q with
  | zero => obtain rfl : p = 0 := by omega
            rfl
  | succ q ih =>
    rcases Nat.lt_or_ge q p with hlt | hge
    · obtain rfl : p = q + 1 := by omega
      rfl
    · rw [h.step_get (p := q) (it := items[q]) (by simp) t (hno q _ hge (by omega) (by simp))]
      exact ih hge (by omega) fun r jt h1 h2 => hno r jt h1 (by omega)
theorem CS.mem_keep (h : CS P N ops items anc E call σ) {p : Nat} : ∀ {q : Nat}, p ≤ q → q ≤ items.length → (∀ (r : Nat) (jt : Item), p ≤ r → r < q → items[r]? = some jt → jt.isM = false) → (σ q).m = (σ p).m := by
  intro q hpq hq hno
  induction q with
  | zero => obtain rfl : p = 0 := by omega
            rfl
  | succ q ih =>
    rcases Nat.lt_or_ge q p with hlt | hge
    · obtain rfl : p = q + 1 := by omega
      rfl
    · have hit : items[q]? = some items[q] := by simp
      have hm := hno q _ hge (by omega) hit
      rw [← ih hge (by omega) fun r jt h1 h2 => hno r jt h1 (by omega)]
      generalize items[q] = it at hit hm
      cases it with
      | ra d =>
        obtain ⟨v, u', _, _, hc⟩ := stepRA_case h.nat (h.run q _ hit) (u := (σ q).t) Agree.rfl'
        cases hc with
        | read _ hm _ _ _ _ => exact hm
        | made _ _ _ hm _ _ _ _ _ => exact hm
        | mset _ _ _ _ _ _ _ _ _ hm _ _ _ => exact hm
      | mo d pm re => simp [Item.isM] at hm
def Made (items : List Item) (σ : Nat → DSt) (p i id : Nat) (cs : B) : Prop :=
  ∃ d : DOp, items[p]? = some (.ra d) ∧ d.i = i ∧ id = (σ p).n ∧ (σ (p + 1)).pend = (i, id, cs) :: (σ p).pend ∧ (σ (p + 1)).n = (σ p).n + 1 ∧ ∀ es, cs = .map es → d.o.op = .m .mkMap
theorem CS.made_eq (h : CS P N ops items anc E call σ) {p q i j id : Nat} {cs cs' : B} (h1 : Made items σ p i id cs) (h2 : Made items σ q j id cs') : p = q ∧ i = j := by
  obtain ⟨d, a1, a2, a3, a4, a5, _⟩ := h1
  obtain ⟨d', b1, b2, b3, b4, b5, _⟩ := h2
  have hp := (gEs a1).1
  have hq := (gEs b1).1
  have hpq : p = q := by
    rcases Nat.lt_trichotomy p q with hlt | he | hlt
    · have := h.n_mono (p := p + 1) (q := q) hlt (by omega); omega
    · exact he
    · have := h.n_mono (p := q + 1) (q := p) hlt (by omega); omega
  subst hpq
  rw [a1] at b1; injection b1 with b1; injection b1 with b1; subst b1
  exact ⟨rfl, by omega⟩
def Sets (items : List Item) (σ : Nat → DSt) (r id : Nat) (k : ByteArray) (v : V) : Prop :=
  ∃ d : DOp, items[r]? = some (.ra d) ∧ isMs d.o.op = true ∧ wantG (σ r).t d.o.g = some true ∧ msArgs d.o.op (σ r).t = some (id, k, v)
def CC (items : List Item) (σ : Nat → DSt) (D : Nat → Prop) (id : Nat) (cs b : B) : Prop := match cs with
  | .map _ => ∃ es, b = .map es ∧ (∀ k v, (k, v) ∈ es ↔ ∃ r, D r ∧ Sets items σ r id k v) ∧ (es.map (·.1)).Nodup
  | _ => b = cs
theorem CC.congr {D D' : Nat → Prop} {id : Nat} {cs b : B} (h : CC items σ D id cs b) (hd : ∀ r k v, Sets items σ r id k v → (D r ↔ D' r)) : CC items σ D' id cs b := by
  cases cs with
  | map _ =>
    obtain ⟨es, h1, h2, h3⟩ := h
    refine ⟨es, h1, fun k v => (h2 k v).trans ?_, h3⟩
    constructor
    · rintro ⟨r, h4, h5⟩; exact ⟨r, (hd r k v h5).1 h4, h5⟩
    · rintro ⟨r, h4, h5⟩; exact ⟨r, (hd r k v h5).2 h4, h5⟩
  | _ => exact h
theorem Sets.fn {r id id' : Nat} {k k' : ByteArray} {v v' : V} (h : Sets items σ r id k v) (h' : Sets items σ r id' k' v') : id = id' ∧ k = k' ∧ v = v' := by
  obtain ⟨d, h1, _, _, h4⟩ := h
  obtain ⟨d', h1', _, _, h4'⟩ := h'
  rw [h1] at h1'; injection h1' with h1'; injection h1' with h1'; subst h1'
  rw [h4] at h4'; injection h4' with h4'; injection h4' with e1 e2; injection e2 with e2 e3
  exact ⟨e1, e2, e3⟩
theorem pendMap_mem : ∀ {l : List (Nat × Nat × B)} {id : Nat} {es : List (ByteArray × V)}, pendMap id l = some es → ∃ i, (i, id, .map es) ∈ l
  | [], _, _, h => by simp [pendMap] at h
  | (i, j, b) :: r, id, es, h => by
    simp only [pendMap] at h
    cases hj : (j == id) with
    | true =>
      rw [hj] at h
      simp only [cond_true] at h
      simp only [beq_iff_eq] at hj
      subst hj
      split at h
      · injection h with h; subst h; exact ⟨i, by simp⟩
      · simp at h
    | false =>
      rw [hj] at h
      obtain ⟨i', h'⟩ := pendMap_mem h
      exact ⟨i', by simp [h']⟩
theorem pendPut_mem {l : List (Nat × Nat × B)} {id i j : Nat} {es : List (ByteArray × V)} {b : B} (h : (i, j, b) ∈ pendPut id es l) : (j ≠ id ∧ (i, j, b) ∈ l) ∨ (j = id ∧ b = .map es ∧ ∃ b0, (i, id, b0) ∈ l) := by
  simp only [pendPut, List.mem_map] at h
  obtain ⟨⟨i', j', b'⟩, h1, h2⟩ := h
  cases hj : (j' == id) with
  | true =>
    rw [hj] at h2
    simp only [cond_true, pMi] at h2
    obtain ⟨rfl, rfl, rfl⟩ := h2
    simp only [beq_iff_eq] at hj
    subst hj
    exact .inr ⟨rfl, rfl, b', h1⟩
  | false =>
    rw [hj] at h2
    simp only [cond_false, pMi] at h2
    obtain ⟨rfl, rfl, rfl⟩ := h2
    exact .inl ⟨by simpa using hj, h1⟩
theorem Made.fn {p i i' id id' : Nat} {cs cs' : B} (h1 : Made items σ p i id cs) (h2 : Made items σ p i' id' cs') : cs = cs' := by
  obtain ⟨d, a1, a2, a3, a4, a5, _⟩ := h1
  obtain ⟨d', b1, b2, b3, b4, b5, _⟩ := h2
  rw [a4] at b4
  injection b4 with b4 _; injection b4 with _ b4; injection b4 with _ b4
theorem CS.pend_of (h : CS P N ops items anc E call σ) : ∀ {q : Nat}, q ≤ items.length → ∀ (i id : Nat) (cs : B), (i, id, cs) ∈ (σ q).pend → ∃ p cs0, p < q ∧ Made items σ p i id cs0 ∧ CC items σ (· < q) id cs0 cs ∧ ∀ (r : Nat) (d : DOp) (pm : List Nat) (re : List DOp), p < r → r < q → items[r]? = some (.mo d pm re) → i ∉ pm
  | 0, _, i, id, cs, hm => by rw [h.p0] at hm; simp at hm
  | q + 1, hq, i, id, cs, hm => by
    have ih := h.pend_of (q := q) (by omega)
    have hit : items[q]? = some items[q] := by simp
    generalize items[q] = it at hit
    have wide : ∀ {p i : Nat} , p < q → (∀ (r : Nat) (d : DOp) (pm : List Nat) (re : List DOp), p < r → r < q → items[r]? = some (.mo d pm re) → i ∉ pm) → (∀ (d : DOp) (pm : List Nat) (re : List DOp), it = .mo d pm re → i ∉ pm) →
        ∀ (r : Nat) (d : DOp) (pm : List Nat) (re : List DOp), p < r → r < q + 1 → items[r]? = some (.mo d pm re) → i ∉ pm := by
      intro p i hp h3 hno r d' pm re h4 h5 h6
      rcases Nat.lt_or_ge r q with h7 | h7
      · exact h3 r d' pm re h4 h7 h6
      · obtain rfl : r = q := by omega
        rw [hit] at h6; injection h6 with h6; exact hno d' pm re h6
    have ccw : ∀ {id : Nat} {cs0 cs : B}, (∀ k v, ¬ Sets items σ q id k v) → CC items σ (· < q) id cs0 cs → CC items σ (· < q + 1) id cs0 cs := by
      intro id cs0 cs hno hc
      refine hc.congr fun r k v hs => ?_
      have hrq : r ≠ q := fun e => hno k v (e ▸ hs)
      constructor <;> intro hr <;> omega
    cases it with
    | ra d =>
      have old : (∀ id k v, ¬ Sets items σ q id k v) → (i, id, cs) ∈ (σ q).pend → ∃ p cs0, p < q + 1 ∧ Made items σ p i id cs0 ∧ CC items σ (· < q + 1) id cs0 cs ∧ ∀ (r : Nat) (d : DOp) (pm : List Nat) (re : List DOp), p < r → r < q + 1 → items[r]? = some (.mo d pm re) → i ∉ pm := by
        intro hno hm
        obtain ⟨p, cs0, h1, h2, hcc, h3⟩ := ih i id cs hm
        exact ⟨p, cs0, by omega, h2, ccw (hno id) hcc, wide h1 h3 fun _ _ _ e => by cases e⟩
      have nosets : ¬ (isMs d.o.op = true ∧ wantG (σ q).t d.o.g = some true) → ∀ id k v, ¬ Sets items σ q id k v := by
        rintro hns id k v ⟨d', e1, e2, e3, _⟩
        rw [hit] at e1; injection e1 with e1; injection e1 with e1; subst e1
        exact hns ⟨e2, e3⟩
      obtain ⟨v, u', _, _, hc⟩ := stepRA_case h.nat (h.run q _ hit) (u := (σ q).t) Agree.rfl'
      cases hc with
      | read hns _ _ hp _ _ => rw [hp] at hm; exact old (nosets hns) hm
      | made cs' hns hmk _ hn hp _ _ _ =>
        have hp' := hp
        rw [hp] at hm
        rcases List.mem_cons.1 hm with hm | hm
        · injection hm with e1 hm; injection hm with e2 e3
          subst e1 e2 e3
          refine ⟨q, cs, by omega, ⟨d, hit, rfl, rfl, hp', hn, fun es he => (hmk es he).2⟩, ?_, fun r d' pm re h4 h5 => by omega⟩
          cases cs with
          | map es =>
            obtain ⟨rfl, _⟩ := hmk es rfl
            refine ⟨[], rfl, fun k v => ⟨fun hk => by simp at hk, ?_⟩, by simp⟩
            rintro ⟨r, hr, hs⟩
            exfalso
            rcases Nat.lt_or_ge r q with hlt | hge
            · obtain ⟨d', f1, f2, f3, f4⟩ := hs
              obtain ⟨v', u', _, _, hc⟩ := stepRA_case h.nat (h.run r _ f1) (u := (σ r).t) Agree.rfl'
              cases hc with
              | read hns _ _ _ _ _ => exact hns ⟨f2, f3⟩
              | made _ hns _ _ _ _ _ _ _ => exact hns ⟨f2, f3⟩
              | mset id' k' v' es' _ _ ha he _ _ _ _ _ =>
                rw [f4] at ha; injection ha with ha; injection ha with ha _
                obtain ⟨i', hi'⟩ := pendMap_mem he
                rw [← ha] at hi'
                obtain ⟨p', cs1, g1, ⟨_, g2, _, g4, _, g6, _⟩, _, _⟩ := h.pend_of (q := r) (by omega) i' _ _ hi'
                have := h.n_mono (p := p' + 1) (q := q) (by omega) (by omega)
                omega
            · obtain rfl : r = q := by omega
              exact nosets hns _ k v hs
          | cells _ _ => rfl
          | ro _ => rfl
          | fix _ _ => rfl
          | iter _ _ => rfl
          | defs => rfl
          | loop _ _ _ _ _ => rfl
        · exact old (nosets hns) hm
      | mset id' k' v' es' hms hw ha he hf _ _ hp _ =>
        have hsets : Sets items σ q id' k' v' := ⟨d, hit, hms, hw, ha⟩
        rw [hp] at hm
        rcases pendPut_mem hm with ⟨hne, hm⟩ | ⟨rfl, rfl, b0, hm⟩
        · obtain ⟨p, cs0, h1, h2, hcc, h3⟩ := ih i id cs hm
          exact ⟨p, cs0, by omega, h2, ccw (fun k v hs => hne (hs.fn hsets).1) hcc, wide h1 h3 fun _ _ _ e => by cases e⟩
        · obtain ⟨p, cs0, h1, h2, _, h3⟩ := ih i id b0 hm
          obtain ⟨i1, hm1⟩ := pendMap_mem he
          obtain ⟨p1, cs1, g1, g2, gcc, _⟩ := ih i1 id _ hm1
          obtain ⟨rfl, rfl⟩ := h.made_eq h2 g2
          obtain rfl := h2.fn g2
          refine ⟨p, cs0, by omega, h2, ?_, wide h1 h3 fun _ _ _ e => by cases e⟩
          cases cs0 with
          | map z =>
            obtain ⟨es, e1, e2, e3⟩ := gcc
            injection e1 with e1; subst e1
            refine ⟨_, rfl, fun k v => ?_, ?_⟩
            · simp only [List.mem_append, List.mem_singleton, pMi, e2]
              constructor
              · rintro (⟨r, hr, hs⟩ | ⟨rfl, rfl⟩)
                · exact ⟨r, by omega, hs⟩
                · exact ⟨q, by omega, hsets⟩
              · rintro ⟨r, hr, hs⟩
                rcases Nat.lt_or_ge r q with hlt | hge
                · exact .inl ⟨r, hlt, hs⟩
                · obtain rfl : r = q := by omega
                  have := hs.fn hsets
                  exact .inr ⟨this.2.1, this.2.2⟩
            · rw [List.map_append, List.nodup_append]
              refine ⟨e3, by simp, fun ka hka kb hkb => ?_⟩
              simp only [List.map_cons, List.map_nil, List.mem_singleton] at hkb
              exact fun e => findS_none hf (by rw [← hkb, ← e]; exact hka)
          | cells _ _ => cases gcc
          | ro _ => cases gcc
          | fix _ _ => cases gcc
          | iter _ _ => cases gcc
          | defs => cases gcc
          | loop _ _ _ _ _ => cases gcc
    | mo d pm re =>
      obtain ⟨m1, r, _, _, _, h4⟩ := h.mo_run hit
      rw [h4] at hm
      simp only [List.mem_filter] at hm
      obtain ⟨p, cs0, h1, h2, hcc, h3⟩ := ih i id cs hm.1
      refine ⟨p, cs0, by omega, h2, ccw (fun k v hs => ?_) hcc, wide h1 h3 fun d' pm' re' e => ?_⟩
      · obtain ⟨d', e1, _⟩ := hs
        rw [hit] at e1; cases e1
      · injection e with e1 e2 e3; subst e2
        simpa using hm.2
theorem CS.mem_ids (h : CS P N ops items anc E call σ) : ∀ {q : Nat}, q ≤ items.length → ∀ (id : Nat) (b : B), (σ q).m.get id = some b →
    ((σ 0).m.get id).isSome = true ∨ (∃ (r : Nat) (jt : Item), r < q ∧ items[r]? = some jt ∧ jt.isM = true ∧ (σ r).n ≤ id ∧ id < (σ (r + 1)).n) ∨
      ∃ (p i : Nat) (cs : B) (r : Nat) (d : DOp) (pm : List Nat) (re : List DOp), p < r ∧ r < q ∧ Made items σ p i id cs ∧ items[r]? = some (.mo d pm re) ∧ i ∈ pm
  | 0, _, id, b, hm => .inl (by rw [hm]; rfl)
  | q + 1, hq, id, b, hm => by
    have up : (((σ 0).m.get id).isSome = true ∨ (∃ (r : Nat) (jt : Item), r < q ∧ items[r]? = some jt ∧ jt.isM = true ∧ (σ r).n ≤ id ∧ id < (σ (r + 1)).n) ∨
        ∃ (p i : Nat) (cs : B) (r : Nat) (d : DOp) (pm : List Nat) (re : List DOp), p < r ∧ r < q ∧ Made items σ p i id cs ∧ items[r]? = some (.mo d pm re) ∧ i ∈ pm) →
        ((σ 0).m.get id).isSome = true ∨ (∃ (r : Nat) (jt : Item), r < q + 1 ∧ items[r]? = some jt ∧ jt.isM = true ∧ (σ r).n ≤ id ∧ id < (σ (r + 1)).n) ∨
        ∃ (p i : Nat) (cs : B) (r : Nat) (d : DOp) (pm : List Nat) (re : List DOp), p < r ∧ r < q + 1 ∧ Made items σ p i id cs ∧ items[r]? = some (.mo d pm re) ∧ i ∈ pm := by
      rintro (h1 | ⟨r, jt, h1, h2⟩ | ⟨p, i, cs, r, d, pm, re, h1, h2, h3⟩)
      · exact .inl h1
      · exact .inr (.inl ⟨r, jt, by omega, h2⟩)
      · exact .inr (.inr ⟨p, i, cs, r, d, pm, re, h1, by omega, h3⟩)
    have hit : items[q]? = some items[q] := by simp
    generalize items[q] = it at hit
    cases it with
    | ra d =>
      have hk := h.mem_keep (p := q) (q := q + 1) (by omega) hq (fun r jt h1 h2 h3 => by
        obtain rfl : r = q := by omega
        rw [hit] at h3; injection h3 with h3; subst h3; rfl)
      rw [hk] at hm
      exact up (h.mem_ids (q := q) (by omega) id b hm)
    | mo d pm re =>
      obtain ⟨m1, r, h1, h2, _, h4⟩ := h.mo_run hit
      obtain ⟨o, _, ho⟩ := h.ok.res q _ hit
      have hmo := (runOp_ok h.cok ho h2).1
      rw [h4] at hm
      rcases hmo.2 id b hm with h5 | h5
      · obtain ⟨c, hc⟩ := Option.isSome_iff_exists.1 h5
        rcases setAll_get h1 id c hc with h6 | ⟨i, cs, h6, _⟩
        · exact up (h.mem_ids (q := q) (by omega) id c h6)
        · simp only [List.mem_filter] at h6
          obtain ⟨p, cs0, h7, h8, _⟩ := h.pend_of (q := q) (by omega) i id cs h6.1
          exact .inr (.inr ⟨p, i, cs0, q, d, pm, re, h7, by omega, h8, hit, by simpa using h6.2⟩)
      · refine .inr (.inl ⟨q, _, by omega, hit, rfl, h5.1, ?_⟩)
        rw [h4]; exact h5.2
end
end Go.Fm
namespace Go.Fm
section
variable [Ctx] {P : Program} {N : Nat} {ops : Array Oper} {items : List Item} {anc : Nat → Nat → Bool} {E : Env} {call : CE} {σ : Nat → DSt}
 {β0 : Nat → Nat × Nat} {kn0 : Nat → Prop} {w0 : World} {ds : List Deferred}
abbrev Done (listed : Array Bool) (i : Nat) : Prop := listed.getD i false = true
def DL (items : List Item) (listed : Array Bool) (r : Nat) : Prop := ∃ it : Item, items[r]? = some it ∧ Done listed it.d.i
def RX (items : List Item) (σ : Nat → DSt) (listed : Array Bool) (e : Nat) : Nat → B → Prop := fun id b =>
 (σ e).m.get id = some b ∨ ∃ (p i : Nat) (cs : B), Made items σ p i id cs ∧ Done listed i ∧ (∀ (r : Nat) (d : DOp) (pm : List Nat) (re : List DOp), p < r → r < e → items[r]? = some (.mo d pm re) → i ∉ pm) ∧ CC items σ (DL items listed) id cs b
structure InvAt (N : Nat) (ops : Array Oper) (items : List Item) (anc : Nat → Nat → Bool) (σ : Nat → DSt) (β0 : Nat → Nat × Nat) (kn0 : Nat → Prop) (w0 : World) (ds : List Deferred)
  (listed : Array Bool) (a : Act) (w : World) (β : Nat → Nat × Nat) (kn : Nat → Prop) (t : Tr 3 V) (e : Nat) : Prop where
 size : listed.size = ops.size
 closed : ∀ i k, Done listed i → anc i k = true → Done listed k
 ele : e ≤ items.length
 espec : ∀ (q : Nat) (jt : Item), items[q]? = some jt → jt.isM = true → (Done listed jt.d.i ↔ q < e)
 elast : e = 0 ∨ ∃ jt : Item, items[e - 1]? = some jt ∧ jt.isM = true
 t1 : ∀ (p : Nat) (it : Item) (k : Nat), items[p]? = some it → Done listed it.d.i → it.d.o.dst = some k → t.get k = (σ (p + 1)).t.get k
 t2 : ∀ k : Nat, (∀ (p : Nat) (it : Item), items[p]? = some it → Done listed it.d.i → it.d.o.dst ≠ some k) → t.get k = (σ 0).t.get k
 tr : TR β kn t a N ds
 kns : ∀ i, kn i ↔ kn0 i ∨ ∃ (p : Nat) (it : Item), items[p]? = some it ∧ Done listed it.d.i ∧ (σ p).n ≤ i ∧ i < (σ (p + 1)).n
 mem : MSr β kn (RX items σ listed e) w
 ext : Ext β0 kn0 β kn
 fr : Frr β0 (Rm (σ 0).m) w0 β (RX items σ listed e) w
def Inv (N : Nat) (ops : Array Oper) (items : List Item) (anc : Nat → Nat → Bool) (σ : Nat → DSt) (β0 : Nat → Nat × Nat) (kn0 : Nat → Prop) (w0 : World) (ds : List Deferred) (listed : Array Bool) (a : Act) (w : World) : Prop :=
 ∃ β kn t e, InvAt N ops items anc σ β0 kn0 w0 ds listed a w β kn t e
theorem done_set {listed : Array Bool} {i : Nat} (hi : i < listed.size) (j : Nat) : Done (listed.setIfInBounds i true) j ↔ j = i ∨ Done listed j := by
 unfold Done
 simp only [Array.getD_eq_getD_getElem?]
 by_cases h : j = i
 ·subst h; simp [hi]
 ·rw [Array.getElem?_setIfInBounds_ne (Ne.symm h)]; simp [h]
theorem ready_anc (h : CS P N ops items anc E call σ) {listed : Array Bool} (hcl : ∀ i k, Done listed i → anc i k = true → Done listed k) {i : Nat} (hr : i ∈ Region.ready .any ops listed) :
  i < ops.size ∧ ¬ Done listed i ∧ ∀ k, anc i k = true → Done listed k := by
 obtain ⟨h0, o, ho, hall⟩ := mem_ready.1 hr
 refine ⟨(Array.getElem?_eq_some_iff.1 ho).1, fun hd => ?_, fun k hk => ?_⟩
 ·unfold Done at hd
  simp only [Array.getD_eq_getD_getElem?] at h0 hd
  cases hq : listed[i]? with
  | none => rw [hq] at h0; simp at h0
  | some b => rw [hq] at h0 hd; simp at h0 hd; rw [h0] at hd; cases hd
 ·obtain ⟨e, he, hb, hk⟩ := h.ok.ancs i k hk o ho
  have hon := hall e he hb
  rcases hk with rfl | hk
  ·exact hon
  ·exact hcl _ _ hon hk
variable (h : CS P N ops items anc E call σ)
include h
theorem agree_at {listed : Array Bool} {a : Act} {w : World} {β : Nat → Nat × Nat} {kn : Nat → Prop} {t : Tr 3 V} {e : Nat} (hI : InvAt N ops items anc σ β0 kn0 w0 ds listed a w β kn t e)
  {p : Nat} {it : Item} (hp : items[p]? = some it) (hnd : ¬ Done listed it.d.i) (hanc : ∀ k, anc it.d.i k = true → Done listed k) : Agree it.d.o t (σ p).t := by
 have hlp := (gEs hp).1
 intro k hk
 by_cases hw : ∃ (q : Nat) (jt : Item), q ≠ p ∧ items[q]? = some jt ∧ jt.d.o.dst = some k
 ·obtain ⟨q, jt, hqp, hq, hdst⟩ := hw
  have hlq := (gEs hq).1
  rcases h.ok.wr p q it jt k hp hq (Ne.symm hqp) hk hdst with ⟨hlt, ha⟩ | ⟨hlt, ha⟩
  ·rw [hI.t1 q jt k hq (hanc _ ha) hdst]
   exact (h.get_keep (p := q + 1) (q := p) hlt (by omega) fun r kt h1 h2 h3 h4 => by
    have := h.ok.ds q r jt kt k hq h3 hdst h4; omega).symm
  ·have hjn : ¬ Done listed jt.d.i := fun hd => hnd (hI.closed _ _ hd ha)
   rw [hI.t2 k fun r kt h1 h2 h3 => by
    have := h.ok.ds q r jt kt k hq h1 hdst h3
    subst this
    rw [hq] at h1; injection h1 with h1; subst h1
    exact hjn h2]
   exact (h.get_keep (p := 0) (q := p) (Nat.zero_le _) (by omega) fun r kt h1 h2 h3 h4 => by
    have := h.ok.ds q r jt kt k hq h3 hdst h4; omega).symm
 ·have hno : ∀ (q : Nat) (jt : Item), q ≠ p → items[q]? = some jt → jt.d.o.dst ≠ some k := fun q jt h1 h2 h3 => hw ⟨q, jt, h1, h2, h3⟩
  rw [hI.t2 k fun r kt h1 h2 h3 => by
   by_cases hr : r = p
   ·subst hr; rw [hp] at h1; injection h1 with h1; subst h1; exact hnd h2
   ·exact hno r kt hr h1 h3]
  exact (h.get_keep (p := 0) (q := p) (Nat.zero_le _) (by omega) fun r kt h1 h2 h3 => hno r kt (by omega) h3).symm
theorem stage_le {listed : Array Bool} {a : Act} {w : World} {β : Nat → Nat × Nat} {kn : Nat → Prop} {t : Tr 3 V} {e : Nat} (hI : InvAt N ops items anc σ β0 kn0 w0 ds listed a w β kn t e)
  {p : Nat} {it : Item} (hp : items[p]? = some it) (hanc : ∀ k, anc it.d.i k = true → Done listed k) : ∀ (r : Nat) (jt : Item), e ≤ r → r < p → items[r]? = some jt → jt.isM = false := by
 have last : ∀ (d : Nat) (r : Nat) (jt : Item), p - r ≤ d → r < p → items[r]? = some jt → jt.isM = true → r < e := by
  intro d
  induction d with
  | zero => intro r jt h1 h2; omega
  | succ d ih =>
   intro r jt h1 h2 h3 h4
   by_cases hx : ∃ (s : Nat) (kt : Item), r < s ∧ s < p ∧ items[s]? = some kt ∧ kt.isM = true
   ·obtain ⟨s, kt, h5, h6, h7, h8⟩ := hx
    have := ih s kt (by omega) h6 h7 h8
    omega
   ·have := h.ok.mo p r it jt hp h3 h2 h4 fun s kt h5 h6 h7 => by
     cases hm : kt.isM with
     | false => rfl
     | true => exact absurd ⟨s, kt, h5, h6, h7, hm⟩ hx
    exact (hI.espec r jt h3 h4).1 (hanc _ this)
 intro r jt h1 h2 h3
 cases hm : jt.isM with
 | false => rfl
 | true => have := last p r jt (by omega) h2 h3 hm; omega
theorem reads_at {listed : Array Bool} {a : Act} {w : World} {β : Nat → Nat × Nat} {kn : Nat → Prop} {t : Tr 3 V} {e : Nat} (hI : InvAt N ops items anc σ β0 kn0 w0 ds listed a w β kn t e)
  {p : Nat} {d : DOp} (hp : items[p]? = some (.ra d)) (hnd : ¬ Done listed d.i) (hanc : ∀ k, anc d.i k = true → Done listed k) (hw : wantG (σ p).t d.o.g = some true) (hr : rereads d.o.op = true) {v : V}
  (hv : evR E d.o.op (σ p).t (σ p).m = some v) (hput : putT (σ p).t d.o.dst v = some (σ (p + 1)).t) : evR E d.o.op (σ p).t (σ e).m = some v := by
 have hlp := (gEs hp).1
 rcases Nat.lt_or_ge p e with hpe | hpe
 ·
  rcases hI.elast with h0 | ⟨jt, hj, hjm⟩
  ·omega
  ·have hle := hI.ele
   have hpj : p ≠ e - 1 := fun he => by rw [← he, hp] at hj; injection hj with hj; subst hj; simp [Item.isM] at hjm
   cases jt with
   | ra d' => simp [Item.isM] at hjm
   | mo d' pm re =>
    have hdone : Done listed d'.i := (hI.espec _ _ hj rfl).2 (by omega)
    rcases h.ok.re p (e - 1) d d' pm re hp hj (by omega) hr with ha | hin
    ·exact absurd (hI.closed _ _ hdone ha) hnd
    ·obtain ⟨m1, r, _, _, hre, hst⟩ := h.mo_run hj
     have he1 : e - 1 + 1 = e := by omega
     rw [he1] at hst
     have hrt : r.t = (σ e).t := by rw [hst]
     have hrm : r.m = (σ e).m := by rw [hst]
     rw [hrt, hrm] at hre
     have hmem : ∀ (l : List DOp), recheck E (σ e).t (σ e).m l = true → d ∈ l → (match wantG (σ e).t d.o.g with
      | none => false
      | some false => true
      | some true => match evR E d.o.op (σ e).t (σ e).m, d.o.dst with
       | some v, some k => match (σ e).t.get k with
        | some v' => V.same v v'
        | none => false
       | _, _ => false) = true := by
      intro l
      induction l with
      | nil => intro _ hm; simp at hm
      | cons x l ih =>
       intro hx hm
       simp only [recheck, Bool.and_eq_true] at hx
       rcases List.mem_cons.1 hm with rfl | hm
       ·exact hx.1
       ·exact ih hx.2 hm
     have hchk := hmem re hre hin
     have hag : Agree d.o (σ e).t (σ p).t := fun k hk => by
      obtain ⟨hown, hlate⟩ := h.ok.reW p d hp hr k hk
      refine h.get_keep (p := p) (q := e) (by omega) hle fun s kt h1 h2 h3 h4 => ?_
      rcases Nat.lt_or_ge s p with h5 | h5
      ·omega
      ·have := hlate s kt h3 h4
       omega
     rw [hag.want, hw] at hchk
     rw [evR_congr hag.xs] at hchk
     dsimp only at hchk
     split at hchk
     ·rename_i v' k hv' hk
      have hget : (σ e).t.get k = some v := by
       have h1 : (σ (p + 1)).t.get k = some v := by rw [putT_get hput, if_pos hk]
       rw [← h1]
       exact h.get_keep (p := p + 1) (q := e) (by omega) hle fun s kt h5 h6 h7 h8 => by
        have := h.ok.ds p s _ kt k hp h7 hk h8; omega
      rw [hget] at hchk
      rw [hv', same_eq hchk]
     ·simp at hchk
 ·have hk := h.mem_keep (p := e) (q := p) hpe (by omega) (stage_le h hI hp hanc |> fun f r jt h1 h2 h3 => f r jt h1 h2 h3)
  rw [← hk]; exact hv
end
end Go.Fm
namespace Go.Fm
section
variable [Ctx] {P : Program} {N : Nat} {ops : Array Oper} {items : List Item} {anc : Nat → Nat → Bool} {E : Env} {call : CE} {σ : Nat → DSt}
 {β0 : Nat → Nat × Nat} {kn0 : Nat → Prop} {w0 : World} {ds : List Deferred}
theorem rereads_of {o : RO} {q : MO} (ho : o = .m q) (hr : rereads o = false) (t : Tr 3 V) (m m' : Mem) : evR E o t m = evR E o t m' := by
 subst ho
 cases q <;> simp [rereads] at hr <;> rfl
theorem CS.range_ne (h : CS P N ops items anc E call σ) {p q : Nat} {it jt : Item} (hp : items[p]? = some it) (hq : items[q]? = some jt) {i : Nat} (h1 : (σ p).n ≤ i) (h2 : i < (σ (p + 1)).n) (h3 : (σ q).n ≤ i) (h4 : i < (σ (q + 1)).n) : p = q := by
 have hlp := (gEs hp).1
 have hlq := (gEs hq).1
 rcases Nat.lt_trichotomy p q with hlt | he | hlt
 ·have := h.n_mono (p := p + 1) (q := q) hlt (by omega); omega
 ·exact he
 ·have := h.n_mono (p := q + 1) (q := p) hlt (by omega); omega
theorem CS.sets_made (h : CS P N ops items anc E call σ) {r id : Nat} {k : ByteArray} {v : V} (hs : Sets items σ r id k v) :
  ∃ (q : Nat) (e : DOp), q < r ∧ items[q]? = some (.ra e) ∧ Made items σ q e.i id (.map []) ∧ ∀ d, items[r]? = some (.ra d) → anc d.i e.i = true := by
 obtain ⟨d, h1, h2, h3, h4⟩ := hs
 have hlr := (gEs h1).1
 obtain ⟨q, e, k', s, v', g1, g2, g3, g4, g5, g6, g7⟩ := h.ok.msr r d h1 h2
 refine ⟨q, e, g1, g2, ?_, fun d' hd' => by rw [h1] at hd'; injection hd' with hd'; injection hd' with hd'; subst hd'; exact g7⟩
 have hst := h.run q _ g2
 simp only [run1, stepRA, g3, g4, wantG, isMs, cond_false, evA] at hst
 have hlt := (bif_none hst).1
 replace hst := (bif_none hst).2
 simp only [oMs] at hst
 obtain ⟨t1, e1, e2⟩ := hst
 have hget : (σ r).t.get k' = some (.mp (σ q).n) := by
  rw [h.get_keep (p := q + 1) (q := r) g1 (by omega) fun s jt s1 s2 s3 s4 => by
   have := h.ok.ds q s _ jt k' g2 s3 g5 s4; omega]
  rw [← e2]
  show t1.get k' = _
  rw [putT_get e1, if_pos g5]
 have hid : id = (σ q).n := by
  rw [g6] at h4
  simp only [msArgs, val, hget, Option.getD_some, oMs, pMi] at h4
  obtain ⟨_, _, h5, _⟩ := h4
  exact h5.symm
 exact ⟨e, g2, rfl, hid, by rw [← e2, hid], by rw [← e2], fun _ _ => g3⟩
theorem CS.made_lt (h : CS P N ops items anc E call σ) {p i id : Nat} {cs : B} (hm : Made items σ p i id cs) : id < 262144 := by
 obtain ⟨d, a1, a2, a3, a4, a5, a6⟩ := hm
 have hst := h.run p _ a1
 simp only [run1, stepRA] at hst
 split at hst
 ·simp at hst
 ·simp only [oMs] at hst
  obtain ⟨t1, _, e2⟩ := hst
  rw [← e2] at a5; simp at a5
 ·cases hms : isMs d.o.op with
  | true =>
   rw [hms] at hst
   simp only [cond_true, stepMs, oBs] at hst
   obtain ⟨_, _, _, _, hst⟩ := hst
   replace hst := (bif_none hst).2
   simp only [oMs] at hst
   obtain ⟨t1, _, e2⟩ := hst
   rw [← e2] at a5; simp at a5
  | false =>
   rw [hms] at hst
   simp only [cond_false] at hst
   split at hst
   ·simp at hst
   ·have := (bif_none hst).1
    rw [a3]
    exact nLb this
   ·simp only [oBs, oMs] at hst
    obtain ⟨_, _, t1, _, e2⟩ := hst
    rw [← e2] at a5; simp at a5
theorem CS.sets_key (h : CS P N ops items anc E call σ) {r s id : Nat} {k : ByteArray} {v v' : V} (h1 : Sets items σ r id k v) (h2 : Sets items σ s id k v') : r = s := by
 have key : ∀ {r s id : Nat} {k : ByteArray} {v v' : V}, Sets items σ r id k v → Sets items σ s id k v' → r < s → False := by
  intro r s id k v v' h1 h2 hlt
  obtain ⟨d, g1, g2, g3, g4⟩ := h2
  have hls := (gEs g1).1
  obtain ⟨v1, u', _, _, hc⟩ := stepRA_case h.nat (h.run s _ g1) (u := (σ s).t) Agree.rfl'
  cases hc with
  | read hns _ _ _ _ _ => exact hns ⟨g2, g3⟩
  | made _ hns _ _ _ _ _ _ _ => exact hns ⟨g2, g3⟩
  | mset id' k' v'' es _ _ ha he hf _ _ _ _ =>
   rw [g4] at ha; injection ha with ha; injection ha with e1 e2; injection e2 with e2 _
   subst e1 e2
   obtain ⟨i, hi⟩ := pendMap_mem he
   obtain ⟨p, cs0, _, _, hcc, _⟩ := h.pend_of (q := s) (by omega) i _ _ hi
   cases cs0 with
   | map z =>
    obtain ⟨es', e1, e2, _⟩ := hcc
    injection e1 with e1; subst e1
    have := (e2 k v).2 ⟨r, hlt, h1⟩
    exact findS_none hf (List.mem_map.2 ⟨_, this, rfl⟩)
   | cells _ _ => cases hcc
   | ro _ => cases hcc
   | fix _ _ => cases hcc
   | iter _ _ => cases hcc
   | defs => cases hcc
   | loop _ _ _ _ _ => cases hcc
 rcases Nat.lt_trichotomy r s with hlt | he | hlt
 ·exact (key h1 h2 hlt).elim
 ·exact he
 ·exact (key h2 h1 hlt).elim
open Classical in
theorem CS.sets_list (h : CS P N ops items anc E call σ) (D : Nat → Prop) (id : Nat) : ∀ m : Nat, ∃ es : List (ByteArray × V), (∀ k v, (k, v) ∈ es ↔ ∃ r, r < m ∧ D r ∧ Sets items σ r id k v) ∧ (es.map (·.1)).Nodup
 | 0 => ⟨[], fun k v => by simp, by simp⟩
 | m + 1 => by
  obtain ⟨es, h1, h2⟩ := h.sets_list D id m
  by_cases hx : D m ∧ ∃ k v, Sets items σ m id k v
  ·obtain ⟨hd, k0, v0, hs⟩ := hx
   refine ⟨es ++ [(k0, v0)], fun k v => ?_, ?_⟩
   ·simp only [List.mem_append, List.mem_singleton, pMi, h1]
    constructor
    ·rintro (⟨r, a, b, c⟩ | ⟨rfl, rfl⟩)
     ·exact ⟨r, by omega, b, c⟩
     ·exact ⟨m, by omega, hd, hs⟩
    ·rintro ⟨r, a, b, c⟩
     rcases Nat.lt_or_ge r m with hlt | hge
     ·exact .inl ⟨r, hlt, b, c⟩
     ·obtain rfl : r = m := by omega
      have := c.fn hs
      exact .inr ⟨this.2.1, this.2.2⟩
   ·rw [List.map_append, List.nodup_append]
    refine ⟨h2, by simp, fun ka hka kb hkb => ?_⟩
    simp only [List.map_cons, List.map_nil, List.mem_singleton] at hkb
    intro e
    obtain ⟨⟨k1, v1⟩, g1, g2⟩ := List.mem_map.1 hka
    obtain ⟨r, hr1, _, hr3⟩ := (h1 k1 v1).1 g1
    dsimp only at g2
    have : k1 = k0 := by rw [g2, e, hkb]
    subst this
    have := h.sets_key hr3 hs
    omega
  ·refine ⟨es, fun k v => (h1 k v).trans ⟨fun ⟨r, a, b, c⟩ => ⟨r, by omega, b, c⟩, fun ⟨r, a, b, c⟩ => ⟨r, ?_, b, c⟩⟩, h2⟩
   rcases Nat.lt_or_ge r m with hlt | hge
   ·exact hlt
   ·obtain rfl : r = m := by omega
    exact (hx ⟨b, _, _, c⟩).elim
theorem nodup_of_keys {es : List (ByteArray × V)} (h : (es.map (·.1)).Nodup) : es.Nodup := by
 unfold List.Nodup at h ⊢
 rw [List.pairwise_map] at h
 exact h.imp fun q e => q (congrArg _ e)
theorem perm_of_mem {es fs : List (ByteArray × V)} (h1 : (es.map (·.1)).Nodup) (h2 : (fs.map (·.1)).Nodup) (h : ∀ kv, kv ∈ es ↔ kv ∈ fs) : es.Perm fs :=
 (List.perm_ext_iff_of_nodup (nodup_of_keys h1) (nodup_of_keys h2)).2 h
def Rp (R : Nat → B → Prop) (id : Nat) (b : B) : Prop := ∃ b', R id b' ∧ (b = b' ∨ ∃ es fs, b' = .map es ∧ b = .map fs ∧ es.Perm fs)
theorem MSr.perm {β : Nat → Nat × Nat} {kn : Nat → Prop} {R : Nat → B → Prop} {w : World} (h : MSr β kn R w) : MSr β kn (Rp R) w := by
 refine ⟨fun id b ⟨b', h1, h2⟩ => ?_, fun i j b c ⟨b', h1, _⟩ ⟨c', h2, _⟩ he => h.inj i j b' c' h1 h2 he, fun q hq => ⟨(h.gl q hq).1, fun id c ⟨b', h1, _⟩ => (h.gl q hq).2 id b' h1⟩⟩
 obtain ⟨g1, g2⟩ := h.blk id b' h1
 rcases h2 with rfl | ⟨es, fs, rfl, rfl, hp⟩
 ·exact ⟨g1, g2⟩
 ·exact ⟨g1, g2.perm hp⟩
theorem Frr.perm {β β' : Nat → Nat × Nat} {R R' : Nat → B → Prop} {w w' : World} (h : Frr β R w β' R' w') : Frr β R w β' (Rp R') w' :=
 ⟨h.os, h.tape, h.output, h.size, h.block, fun id c ⟨c', h1, _⟩ => h.grow id c' h1⟩
variable (h : CS P N ops items anc E call σ)
include h
theorem inv_step (hf0 : Fresh kn0 (σ 0).n (σ items.length).n) (hk0 : ∀ id, ((σ 0).m.get id).isSome = true → kn0 id) {listed : Array Bool} {a : Act} {w : World} (hI : Inv N ops items anc σ β0 kn0 w0 ds listed a w) {i : Nat} (hr : i ∈ Region.ready .any ops listed)
  (r : Option Nat) (Q : Exit → Act → World → Prop) : wpOpIn (FW r) 0 P ops Q i (Inv N ops items anc σ β0 kn0 w0 ds (listed.setIfInBounds i true)) a w := by
 obtain ⟨β, kn, t, e, hI⟩ := hI
 obtain ⟨hlt, hnd, hanc⟩ := ready_anc h hI.closed hr
 obtain ⟨p, it, hp, hpi⟩ := h.ok.all i hlt
 subst hpi
 have hlp := (gEs hp).1
 obtain ⟨o, ho, hres⟩ := h.ok.res p it hp
 have hag := agree_at h hI hp hnd hanc
 have hst := stage_le h hI hp hanc
 have hds := fun j => done_set (listed := listed) (i := it.d.i) (by rw [hI.size]; exact hlt) j
 have hnp := h.n_step hp
 have hnL : (σ (p + 1)).n ≤ (σ items.length).n := h.n_mono (by omega) (Nat.le_refl _)
 have hn0 : (σ 0).n ≤ (σ p).n := h.n_mono (Nat.zero_le _) (by omega)
 have hfresh : Fresh kn (σ p).n (σ (p + 1)).n := by
  intro j h1 h2 hk
  rcases (hI.kns j).1 hk with hk | ⟨q, jt, hq, hd, h3, h4⟩
  ·exact hf0 j (by omega) (by omega) hk
  ·have := h.range_ne hp hq h1 h2 h3 h4
   subst this
   rw [hp] at hq; injection hq with hq; subst hq
   exact hnd hd
 have next : ∀ (β' : Nat → Nat × Nat) (a' : Act) (w' : World) (u : Tr 3 V) (v : V) (e' : Nat), putT (σ p).t it.d.o.dst v = some (σ (p + 1)).t → putT t it.d.o.dst v = some u →
   TR β' (KN kn (σ p).n (σ (p + 1)).n) u a' N ds → Ext β kn β' (KN kn (σ p).n (σ (p + 1)).n) → Frr β (RX items σ listed e) w β' (RX items σ (listed.setIfInBounds it.d.i true) e') w' →
   MSr β' (KN kn (σ p).n (σ (p + 1)).n) (RX items σ (listed.setIfInBounds it.d.i true) e') w' → e' ≤ items.length → (e' = 0 ∨ ∃ jt : Item, items[e' - 1]? = some jt ∧ jt.isM = true) →
   (∀ (q : Nat) (jt : Item), items[q]? = some jt → jt.isM = true → (Done (listed.setIfInBounds it.d.i true) jt.d.i ↔ q < e')) → Inv N ops items anc σ β0 kn0 w0 ds (listed.setIfInBounds it.d.i true) a' w' := by
  intro β' a' w' u v e' hput1 hput2 htr hext hfr hms hle hlast hes
  refine ⟨β', KN kn (σ p).n (σ (p + 1)).n, u, e', ?_⟩
  refine ⟨by simp [hI.size], fun j k hj hjk => ?_, hle, hes, hlast, fun q jt k hq hd hdst => ?_, fun k hno => ?_, htr, fun j => ?_, hms, hI.ext.trans hext, hI.fr.trans hfr⟩
  ·rw [hds] at hj ⊢
   rcases hj with rfl | hj
   ·exact .inr (hanc k hjk)
   ·exact .inr (hI.closed j k hj hjk)
  ·rw [hds] at hd
   by_cases hqp : q = p
   ·subst hqp
    rw [hp] at hq; injection hq with hq; subst hq
    rw [putT_get hput1, putT_get hput2, if_pos hdst, if_pos hdst]
   ·have hne : it.d.o.dst ≠ some k := fun h2 => hqp (h.ok.ds q p jt it k hq hp hdst h2)
    rw [putT_get hput2, if_neg hne]
    refine hI.t1 q jt k hq (hd.resolve_left fun h2 => hqp (h.ok.uniq q p jt it hq hp h2)) hdst
  ·have hne : it.d.o.dst ≠ some k := hno p it hp ((hds _).2 (.inl rfl))
   rw [putT_get hput2, if_neg hne]
   exact hI.t2 k fun q jt hq hd => hno q jt hq ((hds _).2 (.inr hd))
  ·unfold KN
   rw [hI.kns]
   constructor
   ·rintro ((h1 | ⟨q, jt, h1, h2, h3⟩) | h1)
    ·exact .inl h1
    ·exact .inr ⟨q, jt, h1, (hds _).2 (.inr h2), h3⟩
    ·exact .inr ⟨p, it, hp, (hds _).2 (.inl rfl), h1⟩
   ·rintro (h1 | ⟨q, jt, h1, h2, h3⟩)
    ·exact .inl (.inl h1)
    ·rcases (hds _).1 h2 with h4 | h4
     ·have := h.ok.uniq q p jt it h1 hp h4
      subst this
      exact .inr h3
     ·exact .inl (.inr ⟨q, jt, h1, h4, h3⟩)
 have same_stage : it.isM = false → ∀ (q : Nat) (jt : Item), items[q]? = some jt → jt.isM = true → (Done (listed.setIfInBounds it.d.i true) jt.d.i ↔ q < e) := by
  intro hm q jt hq hjm
  rw [hds, ← hI.espec q jt hq hjm]
  constructor
  ·rintro (h1 | h1)
   ·have := h.ok.uniq q p jt it hq hp h1
    subst this
    rw [hp] at hq; injection hq with hq; subst hq
    rw [hm] at hjm; cases hjm
   ·exact h1
  ·exact .inr
 have hsub : ∀ id b, (σ e).m.get id = some b → RX items σ listed e id b := fun id b hb => .inl hb
 have dl : ∀ r, DL items (listed.setIfInBounds it.d.i true) r ↔ (r = p ∨ DL items listed r) := by
  intro r
  constructor
  ·rintro ⟨jt, h1, h2⟩
   rcases (hds _).1 h2 with h3 | h3
   ·exact .inl (h.ok.uniq r p jt it h1 hp h3)
   ·exact .inr ⟨jt, h1, h3⟩
  ·rintro (rfl | ⟨jt, h1, h2⟩)
   ·exact ⟨it, hp, (hds _).2 (.inl rfl)⟩
   ·exact ⟨jt, h1, (hds _).2 (.inr h2)⟩
 have ndl : ¬ DL items listed p := by
  rintro ⟨jt, h1, h2⟩
  rw [hp] at h1; injection h1 with h1; subst h1
  exact hnd h2
 have cc_no : (∀ id k v, ¬ Sets items σ p id k v) → ∀ {id : Nat} {cs b : B}, CC items σ (DL items (listed.setIfInBounds it.d.i true)) id cs b → CC items σ (DL items listed) id cs b := by
  intro hno id cs b hc
  refine hc.congr fun r k v hs => ?_
  rw [dl]
  exact ⟨fun h1 => h1.resolve_left fun e => hno id k v (e ▸ hs), .inr⟩
 have pending_new : ∀ (q j id : Nat) (cs : B) (e1 : Nat), e1 ≤ items.length → Made items σ q j id cs → (∀ (r : Nat) (d : DOp) (pm : List Nat) (re : List DOp), q < r → r < e1 → items[r]? = some (.mo d pm re) → j ∉ pm) → (σ e1).m.get id = none := by
  intro q j id cs e1 he1 hmade hpm
  cases hg : (σ e1).m.get id with
  | none => rfl
  | some b =>
   exfalso
   have hmade' := hmade
   obtain ⟨d, a1, a2, a3, a4, a5, _⟩ := hmade
   have hlq := (gEs a1).1
   have hn1 : (σ 0).n ≤ (σ q).n := h.n_mono (Nat.zero_le _) (by omega)
   have hn2 : (σ (q + 1)).n ≤ (σ items.length).n := h.n_mono (by omega) (Nat.le_refl _)
   rcases h.mem_ids he1 id b hg with h1 | ⟨s, jt, h1, h2, h3, h4, h5⟩ | ⟨s, k, cs', s', d', pm, re, h1, h2, h3, h4, h5⟩
   ·exact hf0 id (by omega) (by omega) (hk0 id h1)
   ·have := h.range_ne a1 h2 (by omega) (by omega) h4 h5
    subst this
    rw [a1] at h2; injection h2 with h2; subst h2; simp [Item.isM] at h3
   ·obtain ⟨rfl, rfl⟩ := h.made_eq hmade' h3
    exact hpm s' d' pm re h1 h2 h4 h5
 cases it with
 | ra d =>
  obtain ⟨v, u, hput1, hput2, hcase⟩ := stepRA_case h.nat (h.run p _ hp) hag
  have nosets : ¬ (isMs d.o.op = true ∧ wantG (σ p).t d.o.g = some true) → ∀ id k v, ¬ Sets items σ p id k v := by
   rintro hns id k v ⟨d', e1, e2, e3, _⟩
   rw [hp] at e1; injection e1 with e1; injection e1 with e1; subst e1
   exact hns ⟨e2, e3⟩
  cases hcase with
  | read hns hm hn hpend hv hrun =>
   have hmem : ∀ q, d.o.op = .m q → wantG (σ p).t d.o.g = some true → evR E d.o.op (σ p).t (σ e).m = evR E d.o.op (σ p).t (σ p).m := by
    intro q hq hw
    cases hrr : rereads d.o.op with
    | false => exact rereads_of hq hrr _ _ _
    | true =>
     obtain ⟨v', hv', hp'⟩ := hv hw
     rw [reads_at h hI hp hnd hanc hw hrr hv' hp', hv']
   have hro := hrun (σ e).m hmem
   have hok := runOp_ok h.cok hres hro
   have hsubm : MS β kn (σ e).m w := (hI.mem.sub hsub).ms
   unfold wpOpIn
   simp only [ho]
   refine hok.2 β kn a w ds hsubm hI.tr (by intro j h1 h2; dsimp only at h1 h2; omega) r _ Q fun β' a' w' hg htr => ?_
   dsimp only at hg htr
   obtain ⟨f1, f2⟩ := hI.mem.frame hsub hg
   have hkn : KN kn (σ p).n (σ p).n = KN kn (σ p).n (σ (p + 1)).n := by rw [hn]
   rw [hkn] at hg htr f1
   have hshr : ∀ id b, RX items σ (listed.setIfInBounds d.i true) e id b → ((σ e).m.get id = some b ∨ (RX items σ listed e id b ∧ (σ e).m.get id = none)) := by
    rintro id b (h1 | ⟨q, j, cs, h1, h2, h3, h4⟩)
    ·exact .inl h1
    ·refine .inr ⟨.inr ⟨q, j, cs, h1, ?_, h3, cc_no (nosets hns) h4⟩, pending_new q j id cs e hI.ele h1 h3⟩
     rcases (hds _).1 h2 with h5 | h5
     ·
      exfalso
      obtain ⟨d', a1, a2, a3, a4, a5, _⟩ := h1
      have := h.ok.uniq q p _ _ a1 hp (a2.trans h5)
      subst this
      omega
     ·exact h5
   exact next β' a' w' u v e hput1 hput2 htr hg.ext (f2.shrink hshr) (f1.sub hshr) hI.ele hI.elast (same_stage rfl)
  | made cs hns hmk hm hn hpend m1 hg1 hrun =>
   have hok := runOp_ok h.cok hres hrun
   have hnil : MS β kn .nil w := ⟨fun id b e => by simp [Tr.get_nil] at e, fun i j b c e => by simp [Tr.get_nil] at e, fun q hq => ⟨(hI.mem.gl q hq).1, fun id c e => by simp [Tr.get_nil] at e⟩⟩
   unfold wpOpIn
   simp only [ho]
   refine hok.2 β kn a w ds hnil hI.tr (by dsimp only; rw [← hn]; exact hfresh) r _ Q fun β' a' w' hg htr => ?_
   dsimp only at hg htr
   obtain ⟨f1, f2⟩ := hI.mem.frame (m := .nil) (fun id b e => by simp [Tr.get_nil] at e) hg
   rw [← hn] at hg htr f1
   have hshr : ∀ id b, RX items σ (listed.setIfInBounds d.i true) e id b → (m1.get id = some b ∨ (RX items σ listed e id b ∧ (Tr.nil : Mem).get id = none)) := by
    rintro id b (h1 | ⟨q, j, cs', h1, h2, h3, h4⟩)
    ·exact .inr ⟨.inl h1, Tr.get_nil _⟩
    ·rcases (hds _).1 h2 with h5 | h5
     ·left
      have hq : q = p := by
       obtain ⟨d', a1, a2, _⟩ := h1
       exact h.ok.uniq q p _ _ a1 hp (a2.trans h5)
      subst hq
      have hmade := h1
      obtain ⟨d', a1, a2, a3, a4, a5, _⟩ := h1
      rw [hpend] at a4
      injection a4 with a4 _; injection a4 with _ a4; injection a4 with _ a4
      subst a4
      rw [hg1, if_pos a3]
      cases cs with
      | map z =>
       obtain ⟨es, rfl, e2, _⟩ := h4
       obtain ⟨rfl, _⟩ := hmk z rfl
       have : es = [] := by
        cases es with
        | nil => rfl
        | cons kv r =>
         exfalso
         obtain ⟨s, hs1, hs2⟩ := (e2 kv.1 kv.2).1 (by simp)
         obtain ⟨q', e', f1, f2, f3, f4⟩ := h.sets_made hs2
         have hqq := (h.made_eq f3 hmade).1
         subst hqq
         rcases (dl s).1 hs1 with hsp | hsp
         ·omega
         ·obtain ⟨jt, g1, g2⟩ := hsp
          have hs3 := hs2
          obtain ⟨ds', g3, _⟩ := hs3
          rw [g3] at g1; injection g1 with g1; subst g1
          rw [hp] at f2; injection f2 with f2; injection f2 with f2; subst f2
          exact hnd (hI.closed _ _ g2 (f4 ds' g3))
       rw [this]
      | cells _ _ => rw [show b = _ from h4]
      | ro _ => rw [show b = _ from h4]
      | fix _ _ => rw [show b = _ from h4]
      | iter _ _ => rw [show b = _ from h4]
      | defs => rw [show b = _ from h4]
      | loop _ _ _ _ _ => rw [show b = _ from h4]
     ·exact .inr ⟨.inr ⟨q, j, cs', h1, h5, h3, cc_no (nosets hns) h4⟩, Tr.get_nil _⟩
   exact next β' a' w' u v e hput1 hput2 htr hg.ext (f2.shrink hshr) (f1.sub hshr) hI.ele hI.elast (same_stage rfl)
  | mset mid k0 v0 es0 hms hw ha he hf hm hn hpend hrun =>
   have hsets : Sets items σ p mid k0 v0 := ⟨d, hp, hms, hw, ha⟩
   obtain ⟨q, e', f1, f2, f3, f4⟩ := h.sets_made hsets
   have hdq : Done listed e'.i := hanc _ (f4 d hp)
   obtain ⟨fs, x1, x2⟩ := h.sets_list (D := DL items listed) mid items.length
   have x1' : ∀ k v, (k, v) ∈ fs ↔ ∃ r, DL items listed r ∧ Sets items σ r mid k v := fun k v => (x1 k v).trans
    ⟨fun ⟨r, _, a, b⟩ => ⟨r, a, b⟩, fun ⟨r, a, b⟩ => ⟨r, by obtain ⟨_, b1, _⟩ := b; exact (gEs b1).1, a, b⟩⟩
   have hmkm : e'.o.op = .m .mkMap := by
    obtain ⟨d'', a1, _, _, _, _, a6⟩ := f3
    rw [f2] at a1; injection a1 with a1; injection a1 with a1; subst a1
    exact a6 [] rfl
   have hpm : ∀ (r : Nat) (d : DOp) (pm : List Nat) (re : List DOp), q < r → r < e → items[r]? = some (.mo d pm re) → e'.i ∉ pm := fun r d' pm re _ _ hr => h.ok.mpm r d' pm re hr q e' f2 hmkm
   have hnone := pending_new q e'.i mid (.map []) e hI.ele f3 hpm
   have hk0 : k0 ∉ fs.map (·.1) := by
    intro hk
    obtain ⟨⟨k1, v1⟩, g1, g2⟩ := List.mem_map.1 hk
    obtain ⟨r, hr1, hr2⟩ := (x1' k1 v1).1 g1
    dsimp only at g2; subst g2
    have := h.sets_key hr2 hsets
    subst this
    exact ndl hr1
   obtain ⟨ms, hms1⟩ := Tr.set_ok (f := fuel) (k := mid) (by
    have h2 : (8 : Nat) ^ 6 = 262144 := by decide
    have h3 := h.made_lt f3
    omega) (.nil : Mem) (some (.map fs))
   have hms2 := Tr.get_set hms1
   obtain ⟨ms', hms1'⟩ := Tr.set_any hms1 ms (some (.map (putS k0 v0 fs)))
   have hms2' := Tr.get_set hms1'
   rw [putS_new (findS_none' hk0)] at hms2' hms1'
   have hro := hrun fs ms ms' (by rw [hms2, if_pos rfl]) (by rw [putS_new (findS_none' hk0)]; exact hms1')
   have hok := runOp_ok h.cok hres hro
   have hsubm : ∀ id b, ms.get id = some b → RX items σ listed e id b := by
    intro id b hb
    rw [hms2] at hb
    split at hb
    ·rename_i hid
     subst hid
     injection hb with hb; subst hb
     exact .inr ⟨q, e'.i, .map [], f3, hdq, hpm, fs, rfl, x1', x2⟩
    ·simp [Tr.get_nil] at hb
   have hsm : MS β kn ms w := (hI.mem.sub hsubm).ms
   unfold wpOpIn
   simp only [ho]
   refine hok.2 β kn a w ds hsm hI.tr (by intro j h1 h2; dsimp only at h1 h2; omega) r _ Q fun β' a' w' hg htr => ?_
   dsimp only at hg htr
   obtain ⟨f5, f6⟩ := hI.mem.frame hsubm hg
   have hkn : KN kn (σ p).n (σ p).n = KN kn (σ p).n (σ (p + 1)).n := by rw [hn]
   rw [hkn] at hg htr f5
   have hshr : ∀ id b, RX items σ (listed.setIfInBounds d.i true) e id b → Rp (fun id b => ms'.get id = some b ∨ (RX items σ listed e id b ∧ ms.get id = none)) id b := by
    rintro id b (h1 | ⟨q', j, cs, h1, h2, h3, h4⟩)
    ·refine ⟨b, .inr ⟨.inl h1, ?_⟩, .inl rfl⟩
     rw [hms2, if_neg (fun e => by rw [e, hnone] at h1; cases h1)]
     exact Tr.get_nil _
    ·have hdj : Done listed j := by
      rcases (hds _).1 h2 with h7 | h7
      ·exfalso
       obtain ⟨d', a1, a2, a3, a4, a5, _⟩ := h1
       have := h.ok.uniq q' p _ _ a1 hp (a2.trans h7)
       subst this
       omega
      ·exact h7
     by_cases hid : id = mid
     ·subst hid
      obtain ⟨rfl, rfl⟩ := h.made_eq h1 f3
      obtain rfl := h1.fn f3
      obtain ⟨gs, rfl, y1, y2⟩ := h4
      refine ⟨.map (fs ++ [(k0, v0)]), .inl (by rw [hms2', if_pos rfl]), .inr ⟨_, _, rfl, rfl, ?_⟩⟩
      refine perm_of_mem ?_ y2 fun kv => ?_
      ·rw [List.map_append, List.nodup_append]
       refine ⟨x2, by simp, fun ka hka kb hkb => ?_⟩
       simp only [List.map_cons, List.map_nil, List.mem_singleton] at hkb
       exact fun e => hk0 (by rw [← hkb, ← e]; exact hka)
      ·obtain ⟨k, v⟩ := kv
       simp only [List.mem_append, List.mem_singleton, pMi, x1', y1]
       constructor
       ·rintro (⟨r, hr, hs⟩ | ⟨rfl, rfl⟩)
        ·exact ⟨r, (dl r).2 (.inr hr), hs⟩
        ·exact ⟨p, (dl p).2 (.inl rfl), hsets⟩
       ·rintro ⟨r, hr, hs⟩
        rcases (dl r).1 hr with rfl | hr
        ·have := hs.fn hsets; exact .inr ⟨this.2.1, this.2.2⟩
        ·exact .inl ⟨r, hr, hs⟩
     ·refine ⟨b, .inr ⟨.inr ⟨q', j, cs, h1, hdj, h3, h4.congr fun r k v hs => ?_⟩, by rw [hms2, if_neg hid]; exact Tr.get_nil _⟩, .inl rfl⟩
      exact ⟨fun h1 => ((dl r).1 h1).resolve_left fun e => (by subst e; exact hid (hs.fn hsets).1), fun h1 => (dl r).2 (.inr h1)⟩
   exact next β' a' w' u v e hput1 hput2 htr hg.ext (f6.perm.shrink hshr) (f5.perm.sub hshr) hI.ele hI.elast (same_stage rfl)
 | mo d pm re =>
  obtain ⟨m1, rr, hset, hrun0, hre, hσ⟩ := h.mo_run hp
  obtain ⟨v, u, hput1, hput2, hrun⟩ := runOp_agree hrun0 hag
  have hσt : rr.t = (σ (p + 1)).t := by rw [hσ]
  have hσm : rr.m = (σ (p + 1)).m := by rw [hσ]
  have hσn : rr.n = (σ (p + 1)).n := by rw [hσ]
  rw [hσt] at hput1
  have hep : e ≤ p := by
   rcases Nat.lt_or_ge p e with h1 | h1
   ·exact absurd ((hI.espec p _ hp rfl).2 h1) hnd
   ·exact h1
  have hkeep := h.mem_keep (p := e) (q := p) hep (by omega) hst
  have hsub1 : ∀ id b, m1.get id = some b → RX items σ listed e id b := by
   intro id b hb
   rcases setAll_get hset id b hb with h1 | ⟨j, cs, h1, h2⟩
   ·left; rw [← hkeep]; exact h1
   ·simp only [List.mem_filter, List.contains_iff_mem] at h1
    obtain ⟨q, cs0, h3, h4, hcc, h5⟩ := h.pend_of (q := p) (by omega) j id cs h1.1
    refine .inr ⟨q, j, cs0, h4, hanc j (h.ok.pm p d pm re hp j h1.2), fun s d' pm' re' h6 h7 h8 => h5 s d' pm' re' h6 (by omega) h8, ?_⟩
    subst h2
    cases cs0 with
    | map z =>
     exfalso
     obtain ⟨d', a1, a2, _, _, _, a6⟩ := h4
     exact h.ok.mpm p d pm re hp q d' a1 (a6 z rfl) (a2 ▸ h1.2)
    | cells _ _ => exact hcc
    | ro _ => exact hcc
    | fix _ _ => exact hcc
    | iter _ _ => exact hcc
    | defs => exact hcc
    | loop _ _ _ _ _ => exact hcc
  have hok := runOp_ok h.cok hres hrun
  have hsubm : MS β kn m1 w := (hI.mem.sub hsub1).ms
  unfold wpOpIn
  simp only [ho]
  refine hok.2 β kn a w ds hsubm hI.tr (by dsimp only; rw [hσn]; exact hfresh) r _ Q fun β' a' w' hg htr => ?_
  dsimp only at hg htr
  rw [hσn, hσm] at hg
  rw [hσn] at htr
  obtain ⟨f1, f2⟩ := hI.mem.frame hsub1 hg
  have hshr : ∀ id b, RX items σ (listed.setIfInBounds d.i true) (p + 1) id b → ((σ (p + 1)).m.get id = some b ∨ (RX items σ listed e id b ∧ m1.get id = none)) := by
   rintro id b (h1 | ⟨q, j, cs, h1, h2, h3, h4⟩)
   ·exact .inl h1
   ·right
    have hd : Done listed j := by
     rcases (hds _).1 h2 with h5 | h5
     ·exfalso
      obtain ⟨d', a1, a2, _⟩ := h1
      have := h.ok.uniq q p _ _ a1 hp (a2.trans h5)
      subst this
      rw [a1] at hp; cases hp
     ·exact h5
    refine ⟨.inr ⟨q, j, cs, h1, hd, fun s d' pm' re' h6 h7 h8 => h3 s d' pm' re' h6 (by omega) h8, cc_no (fun id k v ⟨d', e1, _⟩ => by rw [hp] at e1; cases e1) h4⟩, ?_⟩
    cases hg1 : m1.get id with
    | none => rfl
    | some b' =>
     exfalso
     rcases setAll_get hset id b' hg1 with h5 | ⟨j', cs', h5, _⟩
     ·have := pending_new q j id cs p (by omega) h1 fun s d' pm' re' h6 h7 h8 => h3 s d' pm' re' h6 (by omega) h8
      rw [this] at h5; cases h5
     ·simp only [List.mem_filter, List.contains_iff_mem] at h5
      obtain ⟨q', cs1, h6, h7, _⟩ := h.pend_of (q := p) (by omega) j' id cs' h5.1
      obtain ⟨rfl, rfl⟩ := h.made_eq h1 h7
      exact h3 p d pm re h6 (by omega) hp h5.2
  refine next β' a' w' u v (p + 1) hput1 hput2 htr hg.ext (f2.shrink hshr) (f1.sub hshr) (by omega) (.inr ⟨_, by simpa using hp, rfl⟩) fun q jt hq hjm => ?_
  rw [hds]
  constructor
  ·rintro (h1 | h1)
   ·have := h.ok.uniq q p jt _ hq hp h1
    omega
   ·have := (hI.espec q jt hq hjm).1 h1
    omega
  ·intro h1
   rcases Nat.lt_or_ge q e with h2 | h2
   ·exact .inr ((hI.espec q jt hq hjm).2 h2)
   ·rcases Nat.lt_or_ge q p with h3 | h3
    ·have := hst q jt h2 h3 hq
     rw [this] at hjm; cases hjm
    ·obtain rfl : q = p := by omega
     rw [hp] at hq; injection hq with hq; subst hq
     exact .inl rfl
end
end Go.Fm
namespace Go.Fm
section
variable [Ctx] {P : Program} {N : Nat} {ops : Array Oper} {items : List Item} {anc : Nat → Nat → Bool} {E : Env} {call : CE} {σ : Nat → DSt}
 {β0 : Nat → Nat × Nat} {kn0 : Nat → Prop} {w0 : World} {ds : List Deferred}
theorem any_of_inv {r : Option Nat} {Q : Exit → Act → World → Prop} {I : Array Bool → Act → World → Prop} (hsize : ∀ listed a w, I listed a w → listed.size = ops.size)
  (hstep : ∀ listed a w, I listed a w → (Region.ready .any ops listed = [] → Q .normal a w) ∧ ∀ i ∈ Region.ready .any ops listed, wpOpIn (FW r) 0 P ops Q i (I (listed.setIfInBounds i true)) a w) :
  ∀ (f : Nat) (listed : Array Bool) (a : Act) (w : World), I listed a w → listed.toList.count false ≤ f → wpAnyIn (FW r) 0 P .any ops Q f listed a w
 | 0, listed, a, w, hI, hc => by
  have hr : Region.ready .any ops listed = [] := by
   apply List.eq_nil_iff_forall_not_mem.2
   intro i hi
   obtain ⟨h0, o, ho, _⟩ := mem_ready.1 hi
   have hlt : i < listed.size := by rw [hsize listed a w hI]; exact (Array.getElem?_eq_some_iff.1 ho).1
   have hf : listed[i] = false := by simpa [Array.getD_eq_getD_getElem?, hlt] using h0
   have : false ∈ listed.toList := by rw [← hf]; simp
   have := List.count_pos_iff.2 this
   omega
  exact ⟨hr, (hstep listed a w hI).1 hr⟩
 | f + 1, listed, a, w, hI, hc => by
  refine ⟨(hstep listed a w hI).1, fun i hi => wpOpIn_mono (fun a' w' hI' => ?_) ((hstep listed a w hI).2 i hi)⟩
  refine any_of_inv hsize hstep f _ a' w' hI' ?_
  obtain ⟨h0, o, ho, _⟩ := mem_ready.1 hi
  have hlt : i < listed.size := by rw [hsize listed a w hI]; exact (Array.getElem?_eq_some_iff.1 ho).1
  have hf : listed[i] = false := by simpa [Array.getD_eq_getD_getElem?, hlt] using h0
  rw [Array.toList_setIfInBounds, List.count_set (by simpa using hlt)]
  simp only [Array.getElem_toList, hf]
  have hpos : 0 < listed.toList.count false := List.count_pos_iff.2 (by rw [← hf]; simp)
  simp only [beq_self_eq_true, if_true]
  rw [if_neg (by simp)]
  omega
theorem CS.mo_all (h : CS P N ops items anc E call σ) {s' : St} (hfin : finDR (σ items.length) = some s') : Mo (σ 0).m (σ 0).n s'.m s'.n := by
 simp only [finDR, oMs] at hfin
 obtain ⟨mf, hset, rfl⟩ := hfin
 have made_range : ∀ {p i id : Nat} {cs : B}, Made items σ p i id cs → (σ 0).n ≤ id ∧ id < (σ items.length).n := by
  rintro p i id cs ⟨d, a1, a2, a3, a4, a5⟩
  have hlp := (gEs a1).1
  have h1 : (σ 0).n ≤ (σ p).n := h.n_mono (Nat.zero_le _) (by omega)
  have h2 : (σ (p + 1)).n ≤ (σ items.length).n := h.n_mono (by omega) (Nat.le_refl _)
  omega
 refine ⟨h.n_mono (Nat.zero_le _) (Nat.le_refl _), fun id b hb => ?_⟩
 rcases setAll_get hset id b hb with h1 | ⟨i, cs, h1, _⟩
 ·rcases h.mem_ids (Nat.le_refl _) id b h1 with h2 | ⟨r, jt, h2, h3, h4, h5, h6⟩ | ⟨p, i, cs, r, d, pm, re, h2, h3, h4, h5⟩
  ·exact .inl h2
  ·have hlr := (gEs h3).1
   have h7 : (σ 0).n ≤ (σ r).n := h.n_mono (Nat.zero_le _) (by omega)
   have h8 : (σ (r + 1)).n ≤ (σ items.length).n := h.n_mono (by omega) (Nat.le_refl _)
   exact .inr ⟨by omega, by show id < (σ items.length).n; omega⟩
  ·exact .inr (made_range h4)
 ·obtain ⟨p, _, _, h2, _⟩ := h.pend_of (Nat.le_refl _) i id cs h1
  exact .inr (made_range h2)
theorem all_done (h : CS P N ops items anc E call σ) {listed : Array Bool} (hs : listed.size = ops.size) (hr : Region.ready .any ops listed = []) : ∀ (p : Nat) (it : Item), items[p]? = some it → Done listed it.d.i := by
 intro p
 induction p using Nat.strongRecOn with
 | _ p ih =>
  intro it hp
  obtain ⟨o, ho, _⟩ := h.ok.res p it hp
  have hlt : it.d.i < listed.size := by rw [hs]; exact (Array.getElem?_eq_some_iff.1 ho).1
  cases hd : listed[it.d.i] with
  | true => simp [Done, Array.getD_eq_getD_getElem?, hlt, hd]
  | false =>
   exfalso
   have : it.d.i ∈ Region.ready .any ops listed := by
    refine mem_ready.2 ⟨by simp [Array.getD_eq_getD_getElem?, hlt, hd], o, ho, fun e he hb => ?_⟩
    obtain ⟨q, jt, h1, h2, h3⟩ := h.ok.topo p it hp o ho e he hb
    rw [← h3]
    exact ih q h1 jt h2
   rw [hr] at this; simp at this
theorem drawn_ok (hmix : P.follows .mixedOrders = true) (hc : CallOk P call) (hn : Nat' E call) {dr : DR} (hok : DOK P N ops (flatDR dr) anc) {s s' : St} (hrun : runDR E call dr ⟨s.t, s.m, s.n, []⟩ = some s') :
  Mo s.m s.n s'.m s'.n ∧ ∀ (r : Option Nat) (id : Nat) β kn a w ds (Q : Exit → Act → World → Prop), MS β kn s.m w → TR β kn s.t a N ds → Fresh kn s.n s'.n →
   (∀ β' a' w', Goes β kn s.m w β' (KN kn s.n s'.n) s'.m w' → TR β' (KN kn s.n s'.n) s'.t a' N ds → Q .normal a' w') → (Code.region id ops true).wpIn (FW r) 0 P Q a w := by
 rw [runDR_eq] at hrun
 simp only [oBs] at hrun
 obtain ⟨sl, hrun, hfin⟩ := hrun
 obtain ⟨σ, h0, hL, hst⟩ := runIs_states hrun
 have h : CS P N ops (flatDR dr) anc E call σ := ⟨hok, hc, hn, hst, by rw [h0]⟩
 rw [← hL] at hfin
 have hmo := h.mo_all hfin
 rw [h0] at hmo
 refine ⟨hmo, fun r id β kn a w ds Q hms htr hf hQ => wpIn_region_any hmix ?_⟩
 generalize hitems : flatDR dr = items at *
 have hfin' := hfin
 simp only [finDR, oMs] at hfin'
 obtain ⟨mf, hset, hs'⟩ := hfin'
 have hnL : (σ items.length).n = s'.n := by rw [← hs']
 let w1 : World := { w with drawn := w.drawn + 1 }
 have hms1 : MS β kn s.m w1 := ⟨hms.blk, hms.inj, hms.gl⟩
 have hone : ∀ j, ¬ Done (Array.replicate ops.size false) j := by
  intro j
  simp only [Done, Array.getD_eq_getD_getElem?, Array.getElem?_replicate]
  split <;> simp
 have hinit : Inv N ops items anc σ β kn w1 ds (Array.replicate ops.size false) a w1 := by
  refine ⟨β, kn, s.t, 0, by simp, fun i k hi => absurd hi (hone i), Nat.zero_le _, fun q jt _ _ => ⟨fun hd => absurd hd (hone _), fun hq => by omega⟩, .inl rfl, fun p it k _ hd => absurd hd (hone _), fun k _ => by rw [h0], htr, fun i => ⟨.inl, ?_⟩, ?_, Ext.refl _ _, ?_⟩
  ·rintro (hk | ⟨p, it, _, hd, _⟩)
   ·exact hk
   ·exact absurd hd (hone _)
  ·refine ⟨fun id b hb => ?_, fun i j b c hb hc => ?_, fun q hq => ⟨(hms1.gl q hq).1, fun id c hc => ?_⟩⟩
   ·rcases hb with hb | ⟨p, i, cs, _, hd, _⟩
    ·rw [h0] at hb; exact hms1.blk id b hb
    ·exact absurd hd (hone _)
   ·rcases hb with hb | ⟨p, i, cs, _, hd, _⟩
    ·rcases hc with hc | ⟨p, i, cs, _, hd, _⟩
     ·rw [h0] at hb hc; exact hms1.inj i j b c hb hc
     ·exact absurd hd (hone _)
    ·exact absurd hd (hone _)
   ·rcases hc with hc | ⟨p, i, cs, _, hd, _⟩
    ·rw [h0] at hc; exact (hms1.gl q hq).2 id c hc
    ·exact absurd hd (hone _)
  ·refine ⟨rfl, rfl, rfl, Nat.le_refl _, fun _ _ _ => rfl, fun id c hc => ?_⟩
   rcases hc with hc | ⟨p, i, cs, _, hd, _⟩
   ·exact .inl ⟨id, c, hc, rfl⟩
   ·exact absurd hd (hone _)
 refine any_of_inv (I := Inv N ops items anc σ β kn w1 ds) (fun listed a w hI => by obtain ⟨_, _, _, _, hI⟩ := hI; exact hI.size) (fun listed a' w' hI => ⟨fun hr => ?_, fun i hi => ?_⟩) ops.size _ a w1 hinit ?_
 ·obtain ⟨β', kn', t, e, hI⟩ := hI
  have hall := all_done h hI.size hr
  have hkeep := h.mem_keep (p := e) (q := items.length) hI.ele (Nat.le_refl _) fun q jt h1 h2 h3 => by
   cases hm : jt.isM with
   | false => rfl
   | true => have := (hI.espec q jt h3 hm).1 (hall q jt h3); omega
  have hkn : ∀ i, kn' i → KN kn s.n s'.n i := fun i hi => by
   rcases (hI.kns i).1 hi with h1 | ⟨p, it, h1, _, h3, h4⟩
   ·exact .inl h1
   ·have hlp := (gEs h1).1
    have h5 : (σ 0).n ≤ (σ p).n := h.n_mono (Nat.zero_le _) (by omega)
    have h6 : (σ (p + 1)).n ≤ (σ items.length).n := h.n_mono (by omega) (Nat.le_refl _)
    rw [h0] at h5
    dsimp only at h5
    exact .inr (by omega)
  have hsub : ∀ id b, s'.m.get id = some b → RX items σ listed e id b := by
   intro id b hb
   rw [← hs'] at hb
   rcases setAll_get hset id b hb with h1 | ⟨i, cs, h1, h2⟩
   ·left; rw [← hkeep]; exact h1
   ·obtain ⟨p, cs0, h3, h4, hcc, h5⟩ := h.pend_of (Nat.le_refl _) i id cs h1
    refine .inr ⟨p, i, cs0, h4, ?_, fun r d pm re h6 h7 h8 => h5 r d pm re h6 (by have := (gEs h8).1; omega) h8, h2 ▸ hcc.congr fun r k v hs => ⟨fun hr => ?_, fun ⟨jt, hr, _⟩ => (gEs hr).1⟩⟩
    rotate_left
    ·obtain ⟨d', hr1, _⟩ := hs
     exact ⟨_, hr1, hall r _ hr1⟩
    obtain ⟨d, a1, a2, _⟩ := h4
    rw [← a2]; exact hall p _ a1
  have hms' : MS β' (KN kn s.n s'.n) s'.m w' := (hI.mem.sub hsub).ms.mono hkn
  have hfr := hI.fr.shrink hsub
  refine hQ β' a' w' ⟨fun i hi => ⟨.inl hi, (hI.ext i hi).2⟩, ⟨hfr.os, hfr.tape, hfr.output, hfr.size, fun b hb hno => ?_, fun i c hc => ?_⟩, hms'⟩ ⟨fun k v hv => ?_, hI.tr.size, hI.tr.defers⟩
  ·exact hfr.block b hb fun i c hc => hno i c (by have hc' : (σ 0).m.get i = some c := hc; rw [h0] at hc'; exact hc')
  ·rcases hfr.grow i c hc with ⟨j, d, h1, h2⟩ | h1
   ·have h1' : (σ 0).m.get j = some d := h1
    rw [h0] at h1'
    exact .inl ⟨j, d, h1', h2⟩
   ·exact .inr h1
  ·rw [← hs'] at hv
   have hget : t.get k = (σ items.length).t.get k := by
    by_cases hx : ∃ (p : Nat) (it : Item), items[p]? = some it ∧ it.d.o.dst = some k
    ·obtain ⟨p, it, h1, h2⟩ := hx
     have hlp := (gEs h1).1
     rw [hI.t1 p it k h1 (hall p it h1) h2]
     exact (h.get_keep (p := p + 1) (q := items.length) (by omega) (Nat.le_refl _) fun q jt h3 h4 h5 h6 => by
      have := h.ok.ds p q it jt k h1 h5 h2 h6; omega).symm
    ·rw [hI.t2 k fun p it h1 _ h2 => hx ⟨p, it, h1, h2⟩]
     exact (h.get_keep (p := 0) (q := items.length) (Nat.zero_le _) (Nat.le_refl _) fun q jt _ _ h3 h4 => hx ⟨q, jt, h3, h4⟩).symm
   exact (hI.tr.tmps k v (by rw [hget]; exact hv)).mono fun i hi => ⟨hkn i hi, rfl⟩
 ·refine inv_step h ?_ ?_ hI hi r Q
  ·rw [h0, hnL]; exact hf
  ·intro i hi
   rw [h0] at hi
   obtain ⟨b, hb⟩ := Option.isSome_iff_exists.1 hi
   exact (hms.blk i b hb).1
 ·simp
end
end Go.Fm
namespace Go.Fm
def ancF (l : List Nat) (i k : Nat) : Bool := (l.getD i 0).testBit k
def allI (f : Nat → Item → Bool) : Nat → List Item → Bool
  | _, [] => true
  | k, it :: r => f k it && allI f (k + 1) r
theorem allI_ok {f : Nat → Item → Bool} : ∀ {l : List Item} {k : Nat}, allI f k l = true → ∀ (p : Nat) (it : Item), l[p]? = some it → f (k + p) it = true
  | [], _, _, p, it, h => by simp at h
  | x :: r, k, h, p, it, hp => by
    simp only [allI, Bool.and_eq_true] at h
    cases p with
    | zero => simp at hp; subst hp; exact h.1
    | succ p =>
      have := allI_ok h.2 p it (by simpa using hp)
      rwa [Nat.add_assoc, Nat.add_comm 1 p] at this
def upMask (anc : List Nat) : List Edge → Nat
  | [] => 0
  | e :: r => bif Region.binds .any e then (2 ^ e.on) ||| anc.getD e.on 0 ||| upMask anc r else upMask anc r
theorem upMask_ok {anc : List Nat} {k : Nat} : ∀ {l : List Edge}, (upMask anc l).testBit k = true → ∃ e ∈ l, Region.binds .any e = true ∧ (e.on = k ∨ ancF anc e.on k = true)
  | [], h => by simp [upMask] at h
  | e :: r, h => by
    unfold upMask at h
    cases hb : Region.binds .any e with
    | false =>
      simp only [hb, cond_false] at h
      obtain ⟨e', h1, h2⟩ := upMask_ok h
      exact ⟨e', by simp [h1], h2⟩
    | true =>
      simp only [hb, cond_true, Nat.testBit_or, Bool.or_eq_true] at h
      rcases h with (h | h) | h
      · refine ⟨e, by simp, hb, .inl ?_⟩
        rw [Nat.testBit_two_pow] at h
        simpa using h
      · exact ⟨e, by simp, hb, .inr h⟩
      · obtain ⟨e', h1, h2⟩ := upMask_ok h
        exact ⟨e', by simp [h1], h2⟩
def ancsB (ops : Array Oper) (anc : List Nat) : Bool := (List.range ops.size).all fun i => match ops[i]? with
  | none => true
  | some o => let m := upMask anc o.after.toList; (anc.getD i 0 ||| m) == m
def topoB (ops : Array Oper) : Nat → List Item → Bool
  | _, [] => true
  | done, it :: r => (match ops[it.d.i]? with
    | none => false
    | some o => o.after.toList.all fun e => !Region.binds .any e || done.testBit e.on) && topoB ops (done ||| 2 ^ it.d.i) r
theorem topoB_ok {ops : Array Oper} : ∀ {l : List Item} {done : Nat}, topoB ops done l = true → ∀ (p : Nat) (it : Item), l[p]? = some it → ∀ o, ops[it.d.i]? = some o → ∀ e ∈ o.after, Region.binds .any e = true →
    done.testBit e.on = true ∨ ∃ (q : Nat) (jt : Item), q < p ∧ l[q]? = some jt ∧ jt.d.i = e.on
  | [], _, _, p, it, hp => by simp at hp
  | x :: r, done, h, p, it, hp => by
    simp only [topoB, Bool.and_eq_true] at h
    intro o ho e he hb
    cases p with
    | zero =>
      simp at hp; subst hp
      rw [ho] at h
      have := h.1
      simp only [List.all_eq_true, Array.mem_toList_iff] at this
      have := this e he
      rw [hb] at this
      exact .inl (by simpa using this)
    | succ p =>
      rcases topoB_ok h.2 p it (by simpa using hp) o ho e he hb with h1 | ⟨q, jt, h1, h2, h3⟩
      · rw [Nat.testBit_or, Bool.or_eq_true] at h1
        rcases h1 with h1 | h1
        · exact .inl h1
        · rw [Nat.testBit_two_pow] at h1
          exact .inr ⟨0, x, by omega, rfl, by simpa using h1⟩
      · exact .inr ⟨q + 1, jt, by omega, by simpa using h2, h3⟩
def pairB (anc : List Nat) (p : Nat) (it : Item) (q : Nat) (jt : Item) : Bool :=
  bif p == q then (match it with
    | .ra d => !rereads d.o.op || (match d.o.dst with
      | none => true
      | some t => !(reads d.o).contains t)
    | .mo d pm _ => pm.all (ancF anc d.i))
  else
    (it.d.i != jt.d.i) &&
    (match jt.d.o.dst with
      | none => true
      | some t => (match it.d.o.dst with
        | none => true
        | some t' => t != t') &&
        (!(reads it.d.o).contains t || ((Nat.blt q p && ancF anc it.d.i jt.d.i) || (Nat.blt p q && ancF anc jt.d.i it.d.i)) && (match it with
          | .ra d => !rereads d.o.op || Nat.blt q p
          | _ => true))) &&
    (match jt with
      | .ra _ => true
      | .mo d' _ re => bif Nat.blt q p then ancF anc it.d.i d'.i else match it with
        | .ra d => !rereads d.o.op || ancF anc d'.i d.i || re.any (fun e => e.i == d.i)
        | _ => true)
def isMk : RO → Bool
  | .m .mkMap => true
  | _ => false
theorem isMk_ok {o : RO} (h : isMk o = true) : o = .m .mkMap := by
  unfold isMk at h
  split at h
  · rfl
  · cases h
def anyI (f : Nat → Item → Bool) : Nat → List Item → Bool
  | _, [] => false
  | k, it :: r => f k it || anyI f (k + 1) r
theorem anyI_ok {f : Nat → Item → Bool} : ∀ {l : List Item} {k : Nat}, anyI f k l = true → ∃ (p : Nat) (it : Item), l[p]? = some it ∧ f (k + p) it = true
  | [], _, h => by simp [anyI] at h
  | x :: r, k, h => by
    simp only [anyI, Bool.or_eq_true] at h
    rcases h with h | h
    · exact ⟨0, x, rfl, h⟩
    · obtain ⟨p, it, h1, h2⟩ := anyI_ok h
      exact ⟨p + 1, it, by simpa using h1, by rw [← Nat.add_assoc, Nat.add_right_comm]; exact h2⟩
def msB (anc : List Nat) (items : List Item) (p : Nat) (it : Item) : Bool := match it with
  | .ra d => !isMs d.o.op || (match d.o.op with
    | .m (.mapSet (.t k) (.c _) _) => anyI (fun q jt => Nat.blt q p && match jt with
      | .ra e => isMk e.o.op && e.o.g.isNone && e.o.dst == some k && ancF anc d.i e.i
      | _ => false) 0 items
    | _ => false)
  | .mo _ pm _ => items.all fun jt => match jt with
    | .ra e => !(isMk e.o.op && pm.contains e.i)
    | _ => true
def okItems (ops : Array Oper) (anc : List Nat) (items : List Item) : Bool :=
  allI (msB anc items) 0 items &&
  ((List.range ops.size).all (fun i => items.any fun it => it.d.i == i) && ancsB ops anc && topoB ops 0 items && allI (fun p it => allI (pairB anc p it) 0 items) 0 items)
theorem okItems_ok [Ctx] {P : Program} {N : Nat} {ops : Array Oper} {anc : List Nat} {items : List Item} (h : okItems ops anc items = true)
    (hres : ∀ (p : Nat) (it : Item), items[p]? = some it → ∃ o : Oper, ops[it.d.i]? = some o ∧ resOp P N ops o = some it.d.o)
    (hre : ∀ (q : Nat) (d : DOp) (pm : List Nat) (re : List DOp), items[q]? = some (.mo d pm re) → ∀ e ∈ re, ∃ o : Oper, ops[e.i]? = some o ∧ resOp P N ops o = some e.o) : DOK P N ops items (ancF anc) := by
  simp only [okItems, Bool.and_eq_true] at h
  obtain ⟨h0, ⟨⟨h1, h2⟩, h3⟩, h4⟩ := h
  have pair : ∀ (p q : Nat) (it jt : Item), items[p]? = some it → items[q]? = some jt → pairB anc p it q jt = true := by
    intro p q it jt hp hq
    have := allI_ok h4 p it hp
    have := allI_ok this q jt hq
    simpa using this
  have ne : ∀ (p q : Nat) (it jt : Item), items[p]? = some it → items[q]? = some jt → p ≠ q → it.d.i ≠ jt.d.i ∧
      (∀ t, jt.d.o.dst = some t → it.d.o.dst ≠ some t ∧ (t ∈ reads it.d.o → ((q < p ∧ ancF anc it.d.i jt.d.i = true) ∨ (p < q ∧ ancF anc jt.d.i it.d.i = true)) ∧ ∀ d, it = .ra d → rereads d.o.op = true → q < p)) ∧
      (∀ d' pm re, jt = .mo d' pm re → (q < p → ancF anc it.d.i d'.i = true) ∧ (p < q → ∀ d, it = .ra d → rereads d.o.op = true → ancF anc d'.i d.i = true ∨ ∃ e ∈ re, e.i = d.i)) := by
    intro p q it jt hp hq hpq
    have := pair p q it jt hp hq
    unfold pairB at this
    rw [show (p == q) = false by simpa using hpq] at this
    simp only [cond_false, Bool.and_eq_true] at this
    obtain ⟨⟨a1, a2⟩, a3⟩ := this
    refine ⟨by simpa using a1, fun t ht => ?_, fun d' pm re hj => ?_⟩
    · rw [ht] at a2
      simp only [Bool.and_eq_true] at a2
      obtain ⟨b1, b2⟩ := a2
      refine ⟨fun hi => by rw [hi] at b1; simp at b1, fun hm => ?_⟩
      rw [show (reads it.d.o).contains t = true by simpa using hm] at b2
      simp only [Bool.not_true, Bool.false_or, Bool.and_eq_true, Bool.or_eq_true] at b2
      refine ⟨?_, fun d hd hr => ?_⟩
      · rcases b2.1 with ⟨c1, c2⟩ | ⟨c1, c2⟩
        · exact .inl ⟨nLb c1, c2⟩
        · exact .inr ⟨nLb c1, c2⟩
      · subst hd
        have := b2.2
        dsimp only at this
        rw [hr] at this
        simp only [Bool.not_true, Bool.false_or] at this
        exact nLb this
    · subst hj
      dsimp only at a3
      refine ⟨fun hlt => ?_, fun hlt d hd hr => ?_⟩
      · rw [show Nat.blt q p = true from Nat.ble_eq_true_of_le hlt] at a3
        exact a3
      · have : Nat.blt q p = false := by
          cases e : Nat.blt q p with
          | false => rfl
          | true => have : q < p := nLb e
                    omega
        rw [this] at a3
        subst hd
        simp only [cond_false, hr, Bool.not_true, Bool.false_or, Bool.or_eq_true, List.any_eq_true, beq_iff_eq] at a3
        exact a3
  refine ⟨hres, fun i hi => ?_, fun p q it jt hp hq he => ?_, fun i k hik o ho => ?_, fun p it hp o ho e he hb => ?_, fun p q it jt t hp hq hpq hm hd => ?_, fun p q it jt t hp hq hd1 hd2 => ?_, fun p q it jt hp hq hlt hm _ => ?_, fun p q d d' pm re hp hq hlt hr => ?_, fun p d hp hr t ht => ?_, fun q d pm re hq i hi => ?_, fun p d hp hms => ?_, fun q d pm re hq p e hp hmk hin => ?_⟩
  · simp only [List.all_eq_true, List.mem_range, List.any_eq_true, beq_iff_eq] at h1
    obtain ⟨it, h5, h6⟩ := h1 i hi
    obtain ⟨p, hp⟩ := List.getElem?_of_mem h5
    exact ⟨p, it, hp, h6⟩
  · rcases Nat.decEq p q with hne | heq
    · exact absurd he (ne p q it jt hp hq hne).1
    · exact heq
  · simp only [ancsB, List.all_eq_true, List.mem_range] at h2
    have := h2 i (Array.getElem?_eq_some_iff.1 ho).1
    rw [ho] at this
    simp only [beq_iff_eq] at this
    have hm : (upMask anc o.after.toList).testBit k = true := by
      rw [← this, Nat.testBit_or, Bool.or_eq_true]; exact .inl hik
    obtain ⟨e, h5, h6⟩ := upMask_ok hm
    exact ⟨e, by simpa using h5, h6⟩
  · rcases topoB_ok h3 p it hp o ho e he hb with h5 | h5
    · simp at h5
    · exact h5
  · exact ((ne p q it jt hp hq hpq).2.1 t hd).2 hm |>.1
  · rcases Nat.decEq p q with hne | heq
    · exact absurd hd1 ((ne p q it jt hp hq hne).2.1 t hd2).1
    · exact heq
  · cases jt with
    | ra d => simp [Item.isM] at hm
    | mo d pm re => exact ((ne p q it _ hp hq (by omega)).2.2 d pm re rfl).1 hlt
  · rcases ((ne p q _ _ hp hq (by omega)).2.2 d' pm re rfl).2 hlt d rfl hr with h5 | ⟨e, h5, h6⟩
    · exact .inl h5
    · right
      obtain ⟨o1, g1, g2⟩ := hre q d' pm re hq e h5
      obtain ⟨o2, g3, g4⟩ := hres p _ hp
      dsimp only [Item.d] at g3 g4
      rw [← h6, g1] at g3; injection g3 with g3; subst g3
      rw [g2] at g4; injection g4 with g4
      have : e = d := by cases e; cases d; simp only [DOp.mk.injEq]; exact ⟨h6, g4⟩
      rw [← this]; exact h5
  · have hself := pair p p _ _ hp hp
    unfold pairB at hself
    simp only [beq_self_eq_true, cond_true, hr, Bool.not_true, Bool.false_or] at hself
    refine ⟨fun hd => ?_, fun q jt hq hd => ?_⟩
    · rw [hd] at hself
      simp only [Bool.not_eq_true', List.contains_eq_mem, decide_eq_false_iff_not] at hself
      exact hself ht
    · rcases Nat.decEq p q with hne | heq
      · exact (((ne p q _ _ hp hq hne).2.1 t hd).2 ht).2 d rfl hr
      · subst heq
        rw [hp] at hq; injection hq with hq; subst hq
        dsimp only [Item.d] at hd
        rw [hd] at hself
        simp only [Bool.not_eq_true', List.contains_eq_mem, decide_eq_false_iff_not] at hself
        exact absurd ht hself
  · have hself := pair q q _ _ hq hq
    unfold pairB at hself
    simp only [beq_self_eq_true, cond_true, List.all_eq_true] at hself
    exact hself i hi
  · have := allI_ok h0 p _ hp
    simp only [msB, hms, Bool.not_true, Bool.false_or] at this
    split at this
    · rename_i k c v hop
      obtain ⟨q, jt, g1, g2⟩ := anyI_ok this
      simp only [Bool.and_eq_true, Nat.zero_add] at g2
      obtain ⟨g2, g3⟩ := g2
      split at g3
      · rename_i e
        simp only [Bool.and_eq_true, beq_iff_eq, Option.isNone_iff_eq_none] at g3
        exact ⟨q, e, k, c, v, nLb g2, g1, isMk_ok g3.1.1.1, g3.1.1.2, g3.1.2, hop, g3.2⟩
      · cases g3
    · cases this
  · have := allI_ok h0 q _ hq
    simp only [msB, List.all_eq_true] at this
    have := this _ (List.mem_of_getElem? hp)
    simp only [hmk, isMk, Bool.true_and, Bool.not_eq_true'] at this
    rw [show pm.contains e.i = true by simpa using hin] at this
    cases this
section
variable [Ctx] {P : Program} {N : Nat} {ops : Array Oper}
theorem resDOp_ok {i : Nat} {d : DOp} (h : resDOp P N ops i = some d) : ∃ o : Oper, ops[d.i]? = some o ∧ resOp P N ops o = some d.o := by
  simp only [resDOp, oBs, oMs] at h
  obtain ⟨o, h1, ro, h2, rfl⟩ := h
  exact ⟨o, h1, h2⟩
theorem resDOps_ok : ∀ {l : List Nat} {ds : List DOp}, resDOps P N ops l = some ds → ∀ d ∈ ds, ∃ o : Oper, ops[d.i]? = some o ∧ resOp P N ops o = some d.o
  | [], ds, h, d, hd => by simp [resDOps] at h; subst h; simp at hd
  | i :: r, ds, h, d, hd => by
    simp only [resDOps, oBs, oMs] at h
    obtain ⟨d0, h1, l, h2, rfl⟩ := h
    rcases List.mem_cons.1 hd with rfl | hd
    · exact resDOp_ok h1
    · exact resDOps_ok h2 d hd
theorem resDR_ok : ∀ {st : List (List Nat × List Nat × Option Nat × List Nat)} {dr : DR}, resDR P N ops st = some dr →
    ∀ it ∈ flatDR dr, (∃ o : Oper, ops[it.d.i]? = some o ∧ resOp P N ops o = some it.d.o) ∧ ∀ d pm re, it = .mo d pm re → ∀ e ∈ re, ∃ o : Oper, ops[e.i]? = some o ∧ resOp P N ops o = some e.o
  | [], dr, h, it, hi => by simp [resDR] at h; subst h; simp [flatDR] at hi
  | (rs, pm, mo, re) :: r, dr, h, it, hi => by
    simp only [resDR, oBs] at h
    obtain ⟨rs', h1, re', h2, h⟩ := h
    cases mo with
    | none =>
      simp only [oMs] at h
      obtain ⟨l, h3, rfl⟩ := h
      simp only [flatDR, List.append_nil, List.mem_map] at hi
      obtain ⟨d, hd, rfl⟩ := hi
      exact ⟨resDOps_ok h1 d hd, fun _ _ _ h => by cases h⟩
    | some i =>
      simp only [oBs, oMs] at h
      obtain ⟨d0, h3, l, h4, rfl⟩ := h
      simp only [flatDR, List.mem_append, List.mem_map, List.mem_cons] at hi
      rcases hi with ⟨d, hd, rfl⟩ | rfl | hi
      · exact ⟨resDOps_ok h1 d hd, fun _ _ _ h => by cases h⟩
      · refine ⟨resDOp_ok h3, fun d pm re h e he => ?_⟩
        injection h with e1 e2 e3
        subst e3
        exact resDOps_ok h2 e he
      · exact resDR_ok h4 it hi
end
def resDefer [CtxV] (P : Program) (N : Nat) (rk : Option Nat) (ops : Array Oper) : Option RC :=
  (ops.toList.getLast?).bind fun o => match o.op with
    | .defer c => match c.callee with
      | .value x => bif rk.isSome && o.dst.isNone && o.guard.isNone then (resOps P N ops ops.toList.dropLast).map fun l => .opsD l (resX x) (c.args.toList.map resX) else none
      | _ => none
    | _ => none
def resRec (P : Program) (N : Nat) : List Oper → Option (List ROp)
  | [] => some []
  | o :: r => bif o.guard.isNone then (resDst N o.dst).bind fun d => (match o.op with
    | .call c => match c.callee with
      | .builtin .recover => some (RO.p (.mv (.c .nili)))
      | _ => (resP P o).map RO.p
    | _ => (resP P o).map RO.p).bind fun q => (resRec P N r).map fun l => ⟨d, none, q⟩ :: l else none
def resCode [CtxV] (P : Program) (N : Nat) (sk : List (Nat × Skel)) (rk : Option Nat) : Code → Option RC
  | .skip => some .skip
  | .region id ops draw => bif draw then (sk.lookup id).bind fun s => (resDR P N ops s.st).bind fun dr => bif okItems ops s.anc (flatDR dr) then some (.drawn dr) else none
      else match resDefer P N rk ops with
        | some rc => some rc
        | none => (resOps P N ops ops.toList).map .ops
  | .seq a b => (resCode P N sk rk a).bind fun a => (resCode P N sk rk b).map fun b => .seq a b
  | .cond c a b => (resCode P N sk rk a).bind fun a => (resCode P N sk rk b).map fun b => .cond (resX c) a b
  | .block id a => (resCode P N sk rk a).map fun a => .block id a
  | .loop a => (resCode P N sk rk a).map .loop
  | .exit id => some (.exit id)
  | .ret => some .ret
  | .rangeFunc g _ _ _ => match rk with
    | some key => some (.rangef (resX g) key)
    | none => some .bad
  | _ => some .bad
def Sites [CtxV] (N key : Nat) : Code → Prop
  | .seq a b => Sites N key a ∧ Sites N key b
  | .cond _ a b => Sites N key a ∧ Sites N key b
  | .block _ a => Sites N key a
  | .loop a => Sites N key a
  | .rangeFunc _ ps a b => CtxV.site key = some (ps, a, b, N)
  | _ => True
end Go.Fm
end
