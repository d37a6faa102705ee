import Derived.WalkKit
import Derived.OrdersIn
set_option maxRecDepth 100000
set_option linter.unusedSectionVars false
set_option linter.unusedVariables false
set_option linter.unusedSimpArgs false
set_option linter.constructorNameAsVariable false
noncomputable section
section
theorem oBs {α β : Type _} {o : Option α} {f : α → Option β} {b : β} : o.bind f = some b ↔ ∃ a, o = some a ∧ f a = some b := Option.bind_eq_some_iff
theorem oMs {α β : Type _} {f : α → β} {o : Option α} {b : β} : o.map f = some b ↔ ∃ a, o = some a ∧ f a = b := Option.map_eq_some_iff
theorem oSi {α : Type _} (a b : α) : (some a = some b) = (a = b) := Option.some.injEq a b
theorem pMi {α β : Type _} (a : α) (b : β) (c : α) (d : β) : ((a, b) = (c, d)) = (a = c ∧ b = d) := Prod.mk.injEq a b c d
theorem fMc {α : Type _} {p : α → Prop} {a : α} {l : List α} (h : p a ∧ ∀ x ∈ l, p x) : ∀ x ∈ a :: l, p x := List.forall_mem_cons.2 h
theorem gEs {α : Type _} {l : List α} {i : Nat} {a : α} (h : l[i]? = some a) : ∃ h : i < l.length, l[i] = a := List.getElem?_eq_some_iff.1 h
theorem nLb {a b : Nat} (h : Nat.ble a b = true) : a ≤ b := Nat.le_of_ble_eq_true h
abbrev nB (b : Bool) : Bool := Bool.rec (motive := fun _ => Bool) true false b
end
namespace Go.Fm
structure N8 (α : Type) where
 a0 : α
 a1 : α
 a2 : α
 a3 : α
 a4 : α
 a5 : α
 a6 : α
 a7 : α
namespace N8
variable {α : Type}
def sel (t : N8 α) : Nat → α
 | 0 => t.a0
 | 1 => t.a1
 | 2 => t.a2
 | 3 => t.a3
 | 4 => t.a4
 | 5 => t.a5
 | 6 => t.a6
 | _ => t.a7
def upd (t : N8 α) (i : Nat) (x : α) : N8 α := match i with
 | 0 => { t with a0 := x }
 | 1 => { t with a1 := x }
 | 2 => { t with a2 := x }
 | 3 => { t with a3 := x }
 | 4 => { t with a4 := x }
 | 5 => { t with a5 := x }
 | 6 => { t with a6 := x }
 | _ => { t with a7 := x }
theorem below8 {i : Nat} (h : i < 8) : i = 0 ∨ i = 1 ∨ i = 2 ∨ i = 3 ∨ i = 4 ∨ i = 5 ∨ i = 6 ∨ i = 7 := by omega
theorem sel_upd (t : N8 α) {i j : Nat} (hi : i < 8) (hj : j < 8) (x : α) : (t.upd i x).sel j = if j = i then x else t.sel j := by
 rcases below8 hi with rfl | rfl | rfl | rfl | rfl | rfl | rfl | rfl <;> rcases below8 hj with rfl | rfl | rfl | rfl | rfl | rfl | rfl | rfl <;> rfl
end N8
def Tr : Nat → Type → Type
 | 0, α => Option α
 | d + 1, α => N8 (Tr d α)
namespace Tr
variable {α : Type}
def nil : {d : Nat} → Tr d α
 | 0 => (none : Option α)
 | d + 1 => (⟨nil, nil, nil, nil, nil, nil, nil, nil⟩ : N8 (Tr d α))
def get : {d : Nat} → Tr d α → Nat → Option α
 | 0, t, k => match k with
  | 0 => (t : Option α)
  | _ + 1 => none
 | d + 1, t, k => get (N8.sel (α := Tr d α) t (k % 8)) (k / 8)
def put : {d : Nat} → Tr d α → Nat → Option α → Option (Tr d α)
 | 0, _, k, x => match k with
  | 0 => some (x : Option α)
  | _ + 1 => none
 | d + 1, t, k, x => (put (N8.sel (α := Tr d α) t (k % 8)) (k / 8) x).map fun u => (N8.upd (α := Tr d α) t (k % 8) u : N8 (Tr d α))
def set {d : Nat} (_ : Nat) (t : Tr d α) (k : Nat) (x : Option α) : Option (Tr d α) := put t k x
theorem sel_nil {d : Nat} (i : Nat) : N8.sel (α := Tr d α) (nil (d := d + 1) : Tr (d + 1) α) i = nil := by
 show N8.sel (⟨nil, nil, nil, nil, nil, nil, nil, nil⟩ : N8 (Tr d α)) i = nil
 unfold N8.sel
 split <;> rfl
theorem get_nil : ∀ {d : Nat} (k : Nat), (nil : Tr d α).get k = none
 | 0, 0 => rfl
 | 0, _ + 1 => rfl
 | d + 1, k => by
  show get (N8.sel (α := Tr d α) (nil (d := d + 1) : Tr (d + 1) α) (k % 8)) (k / 8) = none
  rw [sel_nil]; exact get_nil _
theorem put_succ {d : Nat} {t t' : Tr (d + 1) α} {k : Nat} {x : Option α} (h : put t k x = some t') : ∃ u : Tr d α, put (N8.sel (α := Tr d α) t (k % 8)) (k / 8) x = some u ∧ (N8.upd (α := Tr d α) t (k % 8) u : N8 (Tr d α)) = t' := by
 have e : put t k x = Option.map (fun u => (N8.upd (α := Tr d α) t (k % 8) u : N8 (Tr d α))) (put (N8.sel (α := Tr d α) t (k % 8)) (k / 8) x) := rfl
 rw [e] at h
 cases hp : put (N8.sel (α := Tr d α) t (k % 8)) (k / 8) x with
 | none => rw [hp] at h; cases h
 | some u => rw [hp] at h; exact ⟨u, rfl, Option.some.inj h⟩
theorem get_put : ∀ {d : Nat} {t t' : Tr d α} {k : Nat} {x : Option α}, put t k x = some t' → ∀ j, t'.get j = if j = k then x else t.get j
 | 0, t, t', 0, x, h => by
  have h : x = t' := Option.some.inj h
  subst h
  intro j
  cases j with
  | zero => rfl
  | succ j => rfl
 | 0, t, t', k + 1, x, h => by cases h
 | d + 1, t, t', k, x, h => by
  obtain ⟨u, h1, h2⟩ := put_succ h
  subst h2
  have ih := get_put h1
  intro j
  have hs := N8.sel_upd (α := Tr d α) t (i := k % 8) (j := j % 8) (Nat.mod_lt _ (by decide)) (Nat.mod_lt _ (by decide)) u
  have e1 : get (d := d + 1) (α := α) (N8.upd (α := Tr d α) t (k % 8) u : N8 (Tr d α)) j = get (N8.sel (N8.upd (α := Tr d α) t (k % 8) u) (j % 8)) (j / 8) := rfl
  have e2 : get t j = get (N8.sel (α := Tr d α) t (j % 8)) (j / 8) := rfl
  refine Eq.trans e1 ?_
  refine Eq.trans (congrArg (fun z : Tr d α => z.get (j / 8)) hs) ?_
  by_cases h8 : j % 8 = k % 8
  ·refine Eq.trans (congrArg (fun z : Tr d α => z.get (j / 8)) (if_pos h8)) ?_
   refine Eq.trans (ih (j / 8)) ?_
   by_cases hd : j / 8 = k / 8
   ·rw [if_pos hd, if_pos (by omega)]
   ·rw [if_neg hd, if_neg (by omega)]
    refine Eq.trans ?_ e2.symm
    rw [h8]
  ·refine Eq.trans (congrArg (fun z : Tr d α => z.get (j / 8)) (if_neg h8)) ?_
   rw [if_neg (by omega)]
   exact e2.symm
theorem get_set {d f : Nat} {t t' : Tr d α} {k : Nat} {x : Option α} (h : set f t k x = some t') : ∀ j, t'.get j = if j = k then x else t.get j := get_put h
theorem put_ok : ∀ {d : Nat} {k : Nat}, k < 8 ^ d → ∀ (t : Tr d α) (x : Option α), ∃ t', put t k x = some t'
 | 0, 0, _, t, x => ⟨_, rfl⟩
 | 0, k + 1, h, _, _ => by simp at h
 | d + 1, k, h, t, x => by
  obtain ⟨u, hu⟩ := put_ok (d := d) (k := k / 8) (by rw [Nat.pow_succ] at h; omega) (N8.sel (α := Tr d α) t (k % 8)) x
  refine ⟨(N8.upd (α := Tr d α) t (k % 8) u : N8 (Tr d α)), ?_⟩
  show (put (N8.sel (α := Tr d α) t (k % 8)) (k / 8) x).map _ = _
  rw [hu]; rfl
theorem put_lt : ∀ {d : Nat} {k : Nat} {t t' : Tr d α} {x : Option α}, put t k x = some t' → k < 8 ^ d
 | 0, 0, _, _, _, _ => by simp
 | 0, k + 1, _, _, _, h => by cases h
 | d + 1, k, t, t', x, h => by
  obtain ⟨u, h1, _⟩ := put_succ h
  have := put_lt h1
  rw [Nat.pow_succ]; omega
theorem set_ok {d f : Nat} {k : Nat} (h : k < 8 ^ d) (t : Tr d α) (x : Option α) : ∃ t', set f t k x = some t' := put_ok h t x
theorem set_any {d f : Nat} {k : Nat} {t t1 : Tr d α} {x : Option α} (h : set f t k x = some t1) (u : Tr d α) (y : Option α) : ∃ u', set f u k y = some u' := put_ok (put_lt h) u y
end Tr
inductive V where
 | u
 | int (k : IntKind) (n : Int)
 | bool (b : Bool)
 | str (s : ByteArray)
 | ptr (id off : Nat)
 | nilp
 | sl (id off len : Nat) (cap : Option Nat) (sz : Nat)
 | nils
 | mp (id : Nat)
 | nilm
 | fn (f : Fn) (first caps : List V)
 | nilf
 | yl (id : Nat)
 | ifc (t : TypeId) (v : V)
 | nili
 | agg (cs : List V)
 | tup (vs : List V)
instance : Inhabited V := ⟨.u⟩
inductive VR (β : Nat → Nat × Nat) (kn : Nat → Prop) : V → Value → Prop
 | u (x : Value) : VR β kn .u x
 | int (k : IntKind) (n : Int) : VR β kn (.int k n) (.int k n)
 | bool (b : Bool) : VR β kn (.bool b) (.bool b)
 | str (s : ByteArray) : VR β kn (.str s) (.string s)
 | ptr (id off : Nat) (h : kn id) : VR β kn (.ptr id off) (.pointer (some ⟨(β id).1, off, none⟩))
 | nilp : VR β kn .nilp (.pointer none)
 | sl (id off len : Nat) (cap : Option Nat) (sz c o : Nat) (h : kn id) (h1 : len ≤ c) (h2 : o + c * sz ≤ (β id).2) (h3 : ∀ k, cap = some k → c = k) (h4 : o = off ∨ c = 0) :
   VR β kn (.sl id off len cap sz) (.slice (some ⟨(β id).1, o, none⟩) len c)
 | nils : VR β kn .nils (.slice none 0 0)
 | mp (id : Nat) (h : kn id) : VR β kn (.mp id) (.map (some (β id).1))
 | nilm : VR β kn .nilm (.map none)
 | fn (f : Fn) (first caps : List V) (xs ys : Array Value) (h1 : xs.size = first.length) (h2 : ∀ (i : Nat) (v : V) (x : Value), first[i]? = some v → xs[i]? = some x → VR β kn v x)
   (h3 : ys.size = caps.length) (h4 : ∀ (i : Nat) (v : V) (x : Value), caps[i]? = some v → ys[i]? = some x → VR β kn v x) : VR β kn (.fn f first caps) (.func f xs ys)
 | nilf : VR β kn .nilf .nilFunc
 | yl (id : Nat) (h : kn id) : VR β kn (.yl id) (.func (.yield (β id).1) #[] #[])
 | ifc (t : TypeId) (v : V) (x : Value) (h : VR β kn v x) : VR β kn (.ifc t v) (.iface t x)
 | nili : VR β kn .nili .nilIface
 | agg (cs : List V) (xs : Array Value) (h1 : xs.size = cs.length) (h2 : ∀ (i : Nat) (v : V) (x : Value), cs[i]? = some v → xs[i]? = some x → VR β kn v x) : VR β kn (.agg cs) (.agg xs)
 | tup (vs : List V) (xs : Array Value) (h1 : xs.size = vs.length) (h2 : ∀ (i : Nat) (v : V) (x : Value), vs[i]? = some v → xs[i]? = some x → VR β kn v x) : VR β kn (.tup vs) (.tuple xs)
def Ext (β : Nat → Nat × Nat) (kn : Nat → Prop) (β' : Nat → Nat × Nat) (kn' : Nat → Prop) : Prop := ∀ id, kn id → kn' id ∧ β' id = β id
theorem Ext.refl (β : Nat → Nat × Nat) (kn : Nat → Prop) : Ext β kn β kn := fun _ h => ⟨h, rfl⟩
theorem Ext.trans {β β' β'' : Nat → Nat × Nat} {kn kn' kn'' : Nat → Prop} (h : Ext β kn β' kn') (h' : Ext β' kn' β'' kn'') : Ext β kn β'' kn'' :=
 fun id hk => ⟨(h' id (h id hk).1).1, by rw [(h' id (h id hk).1).2, (h id hk).2]⟩
theorem VR.mono {β β' : Nat → Nat × Nat} {kn kn' : Nat → Prop} (he : Ext β kn β' kn') {v : V} {x : Value} (h : VR β kn v x) : VR β' kn' v x := by
 induction h with
 | u x => exact .u x
 | int k n => exact .int k n
 | bool b => exact .bool b
 | str s => exact .str s
 | ptr id off h => have := he id h; rw [← this.2]; exact .ptr id off this.1
 | nilp => exact .nilp
 | sl id off len cap sz c o h h1 h2 h3 h4 => have := he id h; rw [← this.2] at h2 ⊢; exact .sl id off len cap sz c o this.1 h1 h2 h3 h4
 | nils => exact .nils
 | mp id h => have := he id h; rw [← this.2]; exact .mp id this.1
 | nilm => exact .nilm
 | fn f first caps xs ys h1 _ h3 _ ih1 ih2 => exact .fn f first caps xs ys h1 ih1 h3 ih2
 | nilf => exact .nilf
 | yl id h => have := he id h; rw [← this.2]; exact .yl id this.1
 | ifc t v x _ ih => exact .ifc t v x ih
 | nili => exact .nili
 | agg cs xs h1 _ ih => exact .agg cs xs h1 ih
 | tup vs xs h1 _ ih => exact .tup vs xs h1 ih
def VRow (β : Nat → Nat × Nat) (kn : Nat → Prop) (xs : Array Value) (off : Nat) (vs : List V) : Prop :=
 off + vs.length ≤ xs.size ∧ ∀ (i : Nat) (v : V) (x : Value), vs[i]? = some v → xs[off + i]? = some x → VR β kn v x
theorem VRow.mono {β β' : Nat → Nat × Nat} {kn kn' : Nat → Prop} (he : Ext β kn β' kn') {xs : Array Value} {off : Nat} {vs : List V} (h : VRow β kn xs off vs) : VRow β' kn' xs off vs :=
 ⟨h.1, fun i v x a b => (h.2 i v x a b).mono he⟩
structure TR (β : Nat → Nat × Nat) (kn : Nat → Prop) (t : Tr 3 V) (a : Act) (N : Nat) (ds : List Deferred) : Prop where
 tmps : ∀ i v, t.get i = some v → VR β kn v (a.tmps.getD i undef)
 size : a.tmps.size = N
 defers : a.defers = ds
theorem TR.mono {β β' : Nat → Nat × Nat} {kn kn' : Nat → Prop} (he : Ext β kn β' kn') {t : Tr 3 V} {a : Act} {N : Nat} {ds : List Deferred} (h : TR β kn t a N ds) : TR β' kn' t a N ds :=
 ⟨fun i v hv => (h.tmps i v hv).mono he, h.size, h.defers⟩
def FW (r : Option Nat) : Fence := { fn := fun _ => True, depth := none, alive := false, round := r }
theorem callsIn_FW {r : Option Nat} {n : Nat} {P : Program} {f : FuncId} {args : Array Value} {w : World} {R : Ending → World → Prop} : CallsIn (FW r) n P f args w R ↔ Calls P f args w R :=
 callsIn_wide (n := n)
inductive Jmp where
 | ret
 | exit (id : Nat)
def Jmp.code : Jmp → Code
 | .ret => .ret
 | .exit id => .exit id
inductive B where
 | cells (cs : List V) (T : TypeId)
 | ro (cs : List V)
 | fix (cs : List V) (o : Obj)
 | map (es : List (ByteArray × V))
 | iter (s : ByteArray) (pos : Nat)
 | defs
 | loop (key : Nat) (st : LoopState) (pend : Option Jmp) (t : Tr 3 V) (db : Nat)
abbrev Mem := Tr 6 B
class CtxV where
 site : Nat → Option (Array Tmp × Code × Code × Nat)
 views : TypeId → List (TypeId × Nat × Nat)
 meths : String → List TypeId
class Ctx extends CtxV where
 gl : List (Nat × Obj)
variable [Ctx]
def BR (β : Nat → Nat × Nat) (kn : Nat → Prop) (n : Nat) (b : B) (o : Option Obj) : Prop :=
 match b with
 | .cells cs T => ∃ arr, o = some (.cells arr T (0, 0)) ∧ arr.size = n ∧ VRow β kn arr 0 cs
 | .ro cs => ∃ arr T fr, o = some (.cells arr T fr) ∧ VRow β kn arr 0 cs
 | .fix cs o' => ∃ arr T fr, o' = .cells arr T fr ∧ o = some o' ∧ VRow β kn arr 0 cs
 | .map es => ∃ (entries : Array MapEntry) (clock : Nat) (es' : List (ByteArray × V)), o = some (.map entries clock) ∧ entries.size = es'.length ∧ (∀ (i : Nat) (k : ByteArray) (v : V) (e : MapEntry), es'[i]? = some (k, v) → entries[i]? = some e → e.key = .string k ∧ VR β kn v e.val) ∧ es'.Perm es ∧ (es.map (·.1)).Nodup
 | .iter s pos => o = some (.stringIter s pos)
 | .defs => o = some (.deferred (some []))
 | .loop key st pend t db => ∃ r, o = some (.loop r) ∧ r.state = st ∧ r.pending = pend.map Jmp.code ∧ CtxV.site key = some (r.params, r.assign, r.body, r.tmps.size) ∧
   (∀ i v, t.get i = some v → VR β kn v (r.tmps.getD i undef)) ∧ r.defers = (β db).1 ∧ kn db
structure MS (β : Nat → Nat × Nat) (kn : Nat → Prop) (m : Mem) (w : World) : Prop where
 blk : ∀ id b, m.get id = some b → kn id ∧ BR β kn (β id).2 b (w.heap[(β id).1]?)
 inj : ∀ i j b c, m.get i = some b → m.get j = some c → (β i).1 = (β j).1 → i = j
 gl : ∀ q ∈ Ctx.gl, w.heap[q.1]? = some q.2 ∧ ∀ id c, m.get id = some c → (β id).1 ≠ q.1
theorem BR.mono {β β' : Nat → Nat × Nat} {kn kn' : Nat → Prop} (he : Ext β kn β' kn') {n : Nat} {b : B} {o : Option Obj} (h : BR β kn n b o) : BR β' kn' n b o := by
 cases b with
 | cells cs T => obtain ⟨arr, h1, h2, h3⟩ := h; exact ⟨arr, h1, h2, h3.mono he⟩
 | ro cs => obtain ⟨arr, T, fr, h1, h3⟩ := h; exact ⟨arr, T, fr, h1, h3.mono he⟩
 | fix cs o' => obtain ⟨arr, T, fr, h1, h2, h3⟩ := h; exact ⟨arr, T, fr, h1, h2, h3.mono he⟩
 | map es => obtain ⟨en, ck, es', h1, h2, h3, h4⟩ := h; exact ⟨en, ck, es', h1, h2, fun i k v e a b => ⟨(h3 i k v e a b).1, (h3 i k v e a b).2.mono he⟩, h4⟩
 | iter s pos => exact h
 | defs => exact h
 | loop key st pend t db =>
  obtain ⟨r, h1, h2, h3, h4, h5, h6, h7⟩ := h
  exact ⟨r, h1, h2, h3, h4, fun i v a => (h5 i v a).mono he, by rw [(he db h7).2]; exact h6, (he db h7).1⟩
theorem BR.perm {β : Nat → Nat × Nat} {kn : Nat → Prop} {n : Nat} {es fs : List (ByteArray × V)} {o : Option Obj} (h : BR β kn n (.map es) o) (hp : es.Perm fs) : BR β kn n (.map fs) o := by
 obtain ⟨en, ck, es', h1, h2, h3, h4, h5⟩ := h
 exact ⟨en, ck, es', h1, h2, h3, h4.trans hp, (hp.map _).nodup_iff.1 h5⟩
theorem heap_lt {w : World} {b : Nat} {o : Obj} (h : w.heap[b]? = some o) : b < w.heap.size := by
 rcases Nat.lt_or_ge b w.heap.size with h' | h'
 ·exact h'
 ·simp [Array.getElem?_eq_none h'] at h
theorem BR.lt {β : Nat → Nat × Nat} {kn : Nat → Prop} {n k : Nat} {b : B} {w : World} (h : BR β kn n b (w.heap[k]?)) : k < w.heap.size := by
 cases b with
 | cells cs T => obtain ⟨arr, h1, _⟩ := h; exact heap_lt h1
 | ro cs => obtain ⟨arr, T, fr, h1, _⟩ := h; exact heap_lt h1
 | fix cs o' => obtain ⟨_, _, _, _, h1, _⟩ := h; exact heap_lt h1
 | map es => obtain ⟨en, ck, es', h1, _⟩ := h; exact heap_lt h1
 | iter s pos => exact heap_lt h
 | defs => exact heap_lt h
 | loop key st pend t db => obtain ⟨r, h1, _⟩ := h; exact heap_lt h1
structure Fr (β : Nat → Nat × Nat) (m : Mem) (w : World) (β' : Nat → Nat × Nat) (m' : Mem) (w' : World) : Prop where
 os : w'.os = w.os
 tape : w'.tape = w.tape
 output : w'.output = w.output
 size : w.heap.size ≤ w'.heap.size
 block : ∀ b, b < w.heap.size → (∀ id c, m.get id = some c → (β id).1 ≠ b) → w'.heap[b]? = w.heap[b]?
 grow : ∀ id c, m'.get id = some c → (∃ j d, m.get j = some d ∧ (β j).1 = (β' id).1) ∨ w.heap.size ≤ (β' id).1
theorem Fr.refl (β : Nat → Nat × Nat) (m : Mem) (w : World) : Fr β m w β m w := ⟨rfl, rfl, rfl, Nat.le_refl _, fun _ _ _ => rfl, fun id c h => .inl ⟨id, c, h, rfl⟩⟩
theorem Fr.trans {β β' β'' : Nat → Nat × Nat} {m m' m'' : Mem} {w w' w'' : World} (h : Fr β m w β' m' w') (h' : Fr β' m' w' β'' m'' w'') : Fr β m w β'' m'' w'' := by
 refine ⟨h'.os.trans h.os, h'.tape.trans h.tape, h'.output.trans h.output, Nat.le_trans h.size h'.size, fun b hb hn => ?_, fun id c hc => ?_⟩
 ·rw [h'.block b (Nat.lt_of_lt_of_le hb h.size) (fun id c hc he => ?_), h.block b hb hn]
  rcases h.grow id c hc with ⟨j, d, h1, h2⟩ | h1
  ·exact hn j d h1 (by rw [h2, he])
  ·omega
 ·rcases h'.grow id c hc with ⟨j, d, h1, h2⟩ | h1
  ·rcases h.grow j d h1 with ⟨i, e, h3, h4⟩ | h3
   ·exact .inl ⟨i, e, h3, by rw [h4, h2]⟩
   ·exact .inr (by rw [← h2]; exact h3)
  ·exact .inr (Nat.le_trans h.size h1)
end Go.Fm
namespace Go.Fm
def szOf (P : Program) (t : TypeId) : Option Nat := (P.info? t).map (·.size)
def isAggD : TypeDesc → Bool
 | .struct _ | .array _ _ => true
 | _ => false
def aggT (P : Program) (t : TypeId) : Option Bool := (P.underlying t).map isAggD
def fieldT (P : Program) (t : TypeId) (f : Nat) : Option (Nat × TypeId × Nat) :=
 (P.underlying t).bind fun
  | .struct fs => (fs[f]?).bind fun x => (szOf P x.type).bind fun n => bif n == 0 then none else some (x.offset, x.type, n)
  | _ => none
def constV1 : Value → V
 | .int k n => .int k n
 | .bool b => .bool b
 | .string s => .str s
 | .slice none 0 0 => .nils
 | .pointer none => .nilp
 | .map none => .nilm
 | .nilFunc => .nilf
 | .nilIface => .nili
 | .func f first caps => bif first.isEmpty && caps.isEmpty then .fn f [] [] else .u
 | _ => .u
def constV : Value → V
 | .agg cs => .agg (cs.toList.map constV1)
 | v => constV1 v
inductive X where
 | t (i : Nat)
 | c (v : V)
def val (t : Tr 3 V) : X → V
 | .t i => (t.get i).getD .u
 | .c v => v
def resX : Operand → X
 | .tmp i => .t i
 | .const c => .c (constV c)
 | .global _ => .c .u
 | .func f => .c (.fn (.func f) [] [])
section
variable {β : Nat → Nat × Nat} {kn : Nat → Prop}
theorem constV1_ok (c : Value) : VR β kn (constV1 c) c := by
 unfold constV1
 split <;> try constructor
 rename_i f first caps
 cases h : (first.isEmpty && caps.isEmpty) with
 | false => exact .u _
 | true =>
  simp at h
  obtain ⟨rfl, rfl⟩ := h
  exact .fn f [] [] #[] #[] rfl (by simp) rfl (by simp)
theorem constV_ok (c : Value) : VR β kn (constV c) c := by
 unfold constV
 split
 ·rename_i cs
  refine .agg _ _ (by simp) (fun i v x h1 h2 => ?_)
  simp only [List.getElem?_map, Array.getElem?_toList, oMs] at h1
  obtain ⟨y, hy, rfl⟩ := h1
  rw [hy] at h2; injection h2 with h2; subst h2
  exact constV1_ok y
 ·exact constV1_ok _
theorem val_ok {t : Tr 3 V} {a : Act} {N : Nat} {ds : List Deferred} (h : TR β kn t a N ds) (x : Operand) : VR β kn (val t (resX x)) (a.eval x) := by
 cases x with
 | tmp i =>
  simp only [resX, val, Act.eval]
  cases hg : t.get i with
  | none => exact .u _
  | some v => exact h.tmps i v hg
 | const c => exact constV_ok c
 | global g => exact .u _
 | func f => exact .fn _ [] [] #[] #[] rfl (by simp) rfl (by simp)
end
def asBool : V → Option Bool
 | .bool b => some b
 | _ => none
def asInt : V → Option Int
 | .int _ n => some n
 | _ => none
def asIntK (k : IntKind) : V → Option Int
 | .int k' n => bif k' == k then some n else none
 | _ => none
def asStr : V → Option ByteArray
 | .str s => some s
 | _ => none
def asAgg : V → Option (List V)
 | .agg cs => some cs
 | _ => none
def cellsV : V → Option (List V)
 | .agg cs => some cs
 | .tup _ => none
 | .u => none
 | v => some [v]
section
variable {β : Nat → Nat × Nat} {kn : Nat → Prop} {v : V} {x : Value}
theorem asBool_ok {b : Bool} (h : asBool v = some b) (hr : VR β kn v x) : x = .bool b := by cases v <;> simp [asBool] at h; subst h; cases hr; rfl
theorem asInt_ok {n : Int} (h : asInt v = some n) (hr : VR β kn v x) : ∃ k, x = .int k n := by cases v <;> simp [asInt] at h; subst h; cases hr; exact ⟨_, rfl⟩
theorem asIntK_ok {k : IntKind} {n : Int} (h : asIntK k v = some n) (hr : VR β kn v x) : x = .int k n := by
 cases v <;> simp only [asIntK, reduceCtorEq] at h
 rename_i k' m
 cases e : (k' == k) with
 | false => simp [e] at h
 | true => simp [e] at h; subst h; cases hr; simp at e; rw [e]
theorem asStr_ok {s : ByteArray} (h : asStr v = some s) (hr : VR β kn v x) : x = .string s := by cases v <;> simp [asStr] at h; subst h; cases hr; rfl
theorem asAgg_ok {cs : List V} (h : asAgg v = some cs) (hr : VR β kn v x) : ∃ xs, x = .agg xs ∧ xs.size = cs.length ∧ VRow β kn xs 0 cs := by
 cases v <;> simp [asAgg] at h
 subst h; cases hr
 rename_i xs h1 h2
 exact ⟨xs, rfl, h1, by omega, by simpa using h2⟩
theorem cellsV_ok {cs : List V} (h : cellsV v = some cs) (hr : VR β kn v x) : x.cells.size = cs.length ∧ VRow β kn x.cells 0 cs := by
 cases hr
 case u => simp [cellsV] at h
 case tup => simp [cellsV] at h
 case agg xs h1 h2 =>
  simp only [cellsV, oSi] at h; subst h
  exact ⟨by simpa [Value.cells] using h1, by simp [Value.cells, h1], by simpa [Value.cells] using h2⟩
 all_goals
  simp only [cellsV, oSi] at h; subst h
  refine ⟨rfl, by simp [Value.cells], fun i v x e1 e2 => ?_⟩
  cases i with
  | zero => simp [Value.cells] at e1 e2; subst e1 e2; first | (constructor; done) | (constructor <;> assumption)
  | succ i => simp at e1
end
def isShift : BinOp → Bool
 | .shl | .shr => true
 | _ => false
def intOp (op : BinOp) (k : IntKind) (a b : Int) : Option V :=
 match op with
 | .add => some (.int k (k.wrap (a + b)))
 | .sub => some (.int k (k.wrap (a - b)))
 | .mul => some (.int k (k.wrap (a * b)))
 | .quo => bif b == 0 then none else some (.int k (k.wrap (a.tdiv b)))
 | .rem => bif b == 0 then none else some (.int k (a.tmod b))
 | .and => some (.int k (k.wrap (BitVec.ofInt k.bits a &&& BitVec.ofInt k.bits b).toNat))
 | .or => some (.int k (k.wrap (BitVec.ofInt k.bits a ||| BitVec.ofInt k.bits b).toNat))
 | .xor => some (.int k (k.wrap (BitVec.ofInt k.bits a ^^^ BitVec.ofInt k.bits b).toNat))
 | .andNot => some (.int k (k.wrap (BitVec.ofInt k.bits a &&& ~~~BitVec.ofInt k.bits b).toNat))
 | .eql => some (.bool (a == b))
 | .neq => some (.bool (a != b))
 | .lss => some (.bool (decide (a < b)))
 | .leq => some (.bool (decide (a ≤ b)))
 | .gtr => some (.bool (decide (a > b)))
 | .geq => some (.bool (decide (a ≥ b)))
 | _ => none
def shiftOp (op : BinOp) (k : IntKind) (a b : Int) : Option V :=
 bif decide (b < 0) then none else
  match op with
  | .shl => some (.int k (k.wrap (a * 2 ^ (min b.toNat k.bits))))
  | .shr => some (.int k (a.fdiv (2 ^ (min b.toNat k.bits))))
  | _ => none
def strOp (op : BinOp) (x y : ByteArray) : Option V :=
 match op with
 | .add => bif Nat.ble (x.size + y.size) 9223372036854775807 then some (.str (x ++ y)) else none
 | .eql => some (.bool (x.toList == y.toList))
 | .neq => some (.bool (!(x.toList == y.toList)))
 | .lss => some (.bool (Op.bytesLess x.toList y.toList))
 | .leq => some (.bool (Op.bytesLess x.toList y.toList || x.toList == y.toList))
 | .gtr => some (.bool (!(Op.bytesLess x.toList y.toList || x.toList == y.toList)))
 | .geq => some (.bool (!Op.bytesLess x.toList y.toList))
 | _ => none
def eqNe (op : BinOp) (b : Bool) : Option V :=
 match op with
 | .eql => some (.bool b)
 | .neq => some (.bool (!b))
 | _ => none
section
variable {P : Program} {β : Nat → Nat × Nat} {kn : Nat → Prop}
theorem intOp_ok {op : BinOp} {K : IntKind} {x y : Int} {d : V} (h : intOp op K x y = some d) (hs : isShift op = false) (t : TypeId) :
  ∃ v, (∀ w, (binOp op t (.int K x) (.int K y)).run P w = .ok v w) ∧ VR β kn d v := by
 cases op <;> simp only [intOp, isShift, oSi, reduceCtorEq, Bool.true_eq_false] at h hs
 case quo | rem =>
  all_goals
   cases hb : (y == 0) with
   | true => simp [hb] at h
   | false =>
    simp [hb] at h; subst h
    have hy : y ≠ 0 := by simpa using hb
    refine ⟨_, ?_, .int _ _⟩
    simp [binOp, Op.intDiv, hy]
 all_goals
  subst h
  first
   | (refine ⟨.int K _, ?_, VR.int _ _⟩; simp [binOp, Op.intArith, Op.intBits, Op.intCmp]; done)
   | (refine ⟨.bool _, ?_, VR.bool _⟩; simp [binOp, Op.intArith, Op.intBits, Op.intCmp]; done)
theorem shiftOp_ok {op : BinOp} {K K' : IntKind} {x y : Int} {d : V} (h : shiftOp op K x y = some d) (t : TypeId) :
  ∃ v, (∀ w, (binOp op t (.int K x) (.int K' y)).run P w = .ok v w) ∧ VR β kn d v := by
 unfold shiftOp at h
 cases hb : decide (y < 0) with
 | true => simp [hb] at h
 | false =>
  have hy : ¬ y < 0 := by simpa using hb
  simp only [hb, cond_false] at h
  split at h <;> simp at h
  all_goals
   subst h
   refine ⟨.int K _, ?_, VR.int _ _⟩
   simp [binOp, Op.shift, hy]
theorem strOp_ok {op : BinOp} {x y : ByteArray} {d : V} (h : strOp op x y = some d) (t : TypeId) :
  ∃ v, (∀ w, (binOp op t (.string x) (.string y)).run P w = .ok v w) ∧ VR β kn d v := by
 unfold strOp at h
 split at h
 ·cases hb : Nat.ble (x.size + y.size) 9223372036854775807 with
  | false => simp [hb] at h
  | true =>
   simp [hb] at h; subst h
   have hle := nLb hb
   refine ⟨.string _, fun w => ?_, VR.str _⟩
   have h2 : ¬ ((x.size + y.size : Nat) : Int) > IntKind.i64.max := by
    have : IntKind.i64.max = 9223372036854775807 := by decide
    rw [this]; omega
   simp only [binOp, Op.stringOp, if_neg h2]
   rfl
 all_goals first
  | (simp at h; done)
  | (injection h with h; subst h; refine ⟨.bool _, fun w => ?_, VR.bool _⟩; simp [binOp, Op.stringOp]; done)
def plainV : Value → Bool
 | .nilIface | .agg _ => false
 | _ => true
theorem run_eqGuard {op : BinOp} {t : TypeId} {x y : Operand} {u v : Value} (hu : plainV u = true) (w : World) : (eqGuard op t x y u v).run P w = .ok () w := by
 unfold eqGuard
 cases op <;> simp
 all_goals (cases u <;> simp [plainV] at hu ⊢)
theorem eqlIn_bool {t : TypeId} (hu : P.underlying t = some .bool) (n : Nat) (p q : Bool) (w : World) : (Op.equalIn (n + 1) t (.bool p) (.bool q)).run P w = .ok (p == q) w := by
 simp [Op.equalIn, run_underlying hu]
theorem eqlIn_slice {t e : TypeId} (hu : P.underlying t = some (.slice e)) (m : Nat) (b : Option Addr) (n c : Nat) (w : World) :
  (Op.equalIn (m + 1) t (.slice b n c) (.slice none 0 0)).run P w = .ok b.isNone w := by
 cases b <;> simp [Op.equalIn, run_underlying hu]
theorem eql_bool {t : TypeId} (hu : P.underlying t = some .bool) (p q : Bool) (w : World) : (Op.equal t (.bool p) (.bool q)).run P w = .ok (p == q) w := eqlIn_bool hu 9999 p q w
theorem eql_slice {t e : TypeId} (hu : P.underlying t = some (.slice e)) (b : Option Addr) (n c : Nat) (w : World) :
  (Op.equal t (.slice b n c) (.slice none 0 0)).run P w = .ok b.isNone w := eqlIn_slice hu 9999 b n c w
end
end Go.Fm
namespace Go.Fm
inductive NK where
 | slice | pointer | map | func | iface
inductive PO where
 | mv (x : X)
 | pick (c a b : X)
 | build (z : List V) (ps : List (Nat × Nat × X))
 | bin (op : BinOp) (k : IntKind) (x y : X)
 | shift (op : BinOp) (k k' : IntKind) (x y : X)
 | strop (op : BinOp) (x y : X)
 | boolop (op : BinOp) (x y : X)
 | nilop (op : BinOp) (k : NK) (x : X)
 | neg (x : X)
 | inv (x : X)
 | not (x : X)
 | convI (k k' : IntKind) (x : X)
 | convS (x : X)
 | fieldA (fo : Nat) (x : X)
 | field (fo n : Nat) (g : Bool) (x : X)
 | idxA (len sz : Nat) (x i : X)
 | idxS (sz : Nat) (x i : X)
 | idxV (len sz : Nat) (g : Bool) (x i : X)
 | idxStr (x i : X)
 | ext (x : X) (i : Nat)
 | slS (sz : Nat) (x : X) (lo hi mx : Option X)
 | slStr (x : X) (lo hi : Option X)
 | lenS (x : X)
 | lenStr (x : X)
 | lenC (n : Nat)
 | capS (x : X)
 | mm (max : Bool) (k : IntKind) (x : X) (r : List X)
 | nilck (x : X)
 | mkIf (t : TypeId) (x : X)
 | mkFn (f : Fn) (first caps : List X)
 | arrAt (n : Nat) (x : X)
 | arrEq (op : BinOp) (str : Bool) (n : Nat) (x y : X)
 | ptrEq (op : BinOp) (x y : X)
 | slData (x : X)
def nilK : NK → V → Option Bool
 | .slice, .nils => some true
 | .slice, .sl .. => some false
 | .pointer, .nilp => some true
 | .pointer, .ptr .. => some false
 | .map, .nilm => some true
 | .map, .mp _ => some false
 | .func, .nilf => some true
 | .func, .fn .. => some false
 | .iface, .nili => some true
 | .iface, .ifc .. => some false
 | _, _ => none
def mkV (g : Bool) (n : Nat) (cs : List V) : Option V :=
 bif cs.length == n then (bif g then some (.agg cs) else match cs with
  | [v] => some v
  | _ => none) else none
def cut (off n : Nat) (cs : List V) : List V := (cs.drop off).take n
def leI (a b : Int) : Bool := decide (a ≤ b)
def ltI (a b : Int) : Bool := decide (a < b)
def fillX (t : Tr 3 V) : List V → List (Nat × Nat × X) → Option (List V)
 | cs, [] => some cs
 | cs, (o, n, x) :: r => (cellsV (val t x)).bind fun v => bif v.length == n && Nat.ble (o + n) cs.length then fillX t (cs.take o ++ v ++ cs.drop (o + n)) r else none
def optI (t : Tr 3 V) (d : Int) : Option X → Option Int
 | none => some d
 | some x => asInt (val t x)
def mmI (max : Bool) (a b : Int) : Int := bif max then (if a < b then b else a) else (if b < a then b else a)
def mmX (max : Bool) (k : IntKind) (t : Tr 3 V) : Int → List X → Option Int
 | a, [] => some a
 | a, x :: r => (asIntK k (val t x)).bind fun b => mmX max k t (mmI max a b) r
def eqCell (str : Bool) (v v' : V) : Option Bool := bif str then (asStr v).bind fun a => (asStr v').map fun b => a.data.toList == b.data.toList
 else match v, v' with
 | .int k a, .int k' b => bif k == k' then some (a == b) else none
 | _, _ => none
def eqCells (str : Bool) : List V → List V → Option Bool
 | [], [] => some true
 | v :: r, v' :: r' => (eqCell str v v').bind fun b => bif b then eqCells str r r' else some false
 | _, _ => none
def evP (p : PO) (t : Tr 3 V) : Option V :=
 match p with
 | .mv x => some (val t x)
 | .pick c a b => (asBool (val t c)).bind fun q => bif q then some (val t a) else some (val t b)
 | .build z ps => (fillX t z ps).map .agg
 | .bin op k x y => (asIntK k (val t x)).bind fun a => (asIntK k (val t y)).bind fun b => intOp op k a b
 | .shift op k k' x y => (asIntK k (val t x)).bind fun a => (asIntK k' (val t y)).bind fun b => shiftOp op k a b
 | .strop op x y => (asStr (val t x)).bind fun a => (asStr (val t y)).bind fun b => strOp op a b
 | .boolop op x y => (asBool (val t x)).bind fun a => (asBool (val t y)).bind fun b => eqNe op (a == b)
 | .nilop op k x => (nilK k (val t x)).bind fun b => eqNe op b
 | .neg x => match val t x with
  | .int k n => some (.int k (k.wrap (0 - n)))
  | _ => none
 | .inv x => match val t x with
  | .int k n => some (.int k (k.wrap (BitVec.ofInt k.bits (if k.signed then -1 else k.max) ^^^ BitVec.ofInt k.bits n).toNat))
  | _ => none
 | .not x => (asBool (val t x)).map fun b => .bool (!b)
 | .convI k k' x => (asIntK k (val t x)).map fun n => .int k' (k'.wrap n)
 | .convS x => (asStr (val t x)).map .str
 | .fieldA fo x => match val t x with
  | .ptr id off => some (.ptr id (off + fo))
  | _ => none
 | .field fo n g x => (asAgg (val t x)).bind fun cs => mkV g n (cut fo n cs)
 | .idxA len sz x i => match val t x with
  | .ptr id off => (asInt (val t i)).bind fun n => bif leI 0 n && ltI n len then some (.ptr id (off + n.toNat * sz)) else none
  | _ => none
 | .idxS sz x i => match val t x with
  | .sl id off len _ _ => (asInt (val t i)).bind fun n => bif leI 0 n && ltI n len then some (.ptr id (off + n.toNat * sz)) else none
  | _ => none
 | .idxV len sz g x i => (asAgg (val t x)).bind fun cs => (asInt (val t i)).bind fun n => bif leI 0 n && ltI n len then mkV g sz (cut (n.toNat * sz) sz cs) else none
 | .idxStr x i => (asStr (val t x)).bind fun s => (asInt (val t i)).bind fun n => bif leI 0 n then (s[n.toNat]?).map fun c => .int .u8 c.toNat else none
 | .ext x i => match val t x with
  | .tup vs => vs[i]?
  | _ => none
 | .slS sz x lo hi mx => match val t x with
  | .sl id off len cap sz' => bif sz' == sz then
    (optI t len hi).bind fun h => (optI t 0 lo).bind fun l =>
     match mx with
     | none => bif leI 0 l && leI l h && leI h (cap.getD len) then some (.sl id (off + l.toNat * sz) (h.toNat - l.toNat) (cap.map (· - l.toNat)) sz) else none
     | some m => (asInt (val t m)).bind fun m => bif hi.isSome && leI 0 l && leI l h && leI h m && leI m (cap.getD len) then some (.sl id (off + l.toNat * sz) (h.toNat - l.toNat) (some (m.toNat - l.toNat)) sz) else none
   else none
  | .nils => match mx with
   | none => (optI t 0 hi).bind fun h => (optI t 0 lo).bind fun l => bif h == 0 && l == 0 then some .nils else none
   | some m => (asInt (val t m)).bind fun m => (optI t 0 hi).bind fun h => (optI t 0 lo).bind fun l => bif hi.isSome && m == 0 && h == 0 && l == 0 then some .nils else none
  | _ => none
 | .slStr x lo hi => (asStr (val t x)).bind fun s => (optI t s.size hi).bind fun h => (optI t 0 lo).bind fun l =>
   bif leI 0 l && leI l h && leI h s.size then some (.str (s.extract l.toNat h.toNat)) else none
 | .lenS x => match val t x with
  | .sl _ _ len _ _ => some (.int .i64 len)
  | .nils => some (.int .i64 0)
  | _ => none
 | .lenStr x => (asStr (val t x)).map fun s => .int .i64 s.size
 | .lenC n => some (.int .i64 n)
 | .capS x => match val t x with
  | .sl _ _ _ (some c) _ => some (.int .i64 c)
  | .nils => some (.int .i64 0)
  | _ => none
 | .mm max k x r => (asIntK k (val t x)).bind fun a => (mmX max k t a r).map fun n => .int k n
 | .nilck x => match val t x with
  | .ptr id off => some (.ptr id off)
  | .fn (.func f) first caps => some (.fn (.func f) first caps)
  | .ifc ty v => some (.ifc ty v)
  | _ => none
 | .mkIf ty x => some (.ifc ty (val t x))
 | .mkFn f first caps => some (.fn f (first.map (val t)) (caps.map (val t)))
 | .arrAt n x => match val t x with
  | .sl id off len _ _ => bif Nat.ble n len && Nat.blt 0 len then some (.ptr id off) else none
  | _ => none
 | .arrEq op str n x y => (asAgg (val t x)).bind fun l => (asAgg (val t y)).bind fun l' => bif l.length == n && l'.length == n then (eqCells str l l').bind (eqNe op) else none
 | .ptrEq op x y => match val t x, val t y with
  | .ptr i o, .ptr i' o' => bif i == i' then eqNe op (o == o') else none
  | _, _ => none
 | .slData x => match val t x with
  | .nils => some .nilp
  | .sl id off len _ _ => bif Nat.blt 0 len then some (.ptr id off) else none
  | _ => none
def intT (P : Program) (t : TypeId) : Option IntKind := (P.underlying t).bind fun | .int k => some k | _ => none
def zeroVs (P : Program) (t : TypeId) : Option (List V) := (P.info? t).bind fun i => i.zero.map fun v => v.cells.toList.map constV1
def placesT (P : Program) : List Field → Option (List (Nat × Nat))
 | [] => some []
 | f :: r => (szOf P f.type).bind fun n => (placesT P r).bind fun l => some ((f.offset, n) :: l)
def resParts (pl : Nat → Option (Nat × Nat)) : List (Nat × Operand) → Option (List (Nat × Nat × X))
 | [] => some []
 | (i, x) :: r => (pl i).bind fun (o, n) => (resParts pl r).bind fun l => some ((o, n, resX x) :: l)
def plainT (P : Program) (t : TypeId) : Option Bool := match P.underlying t with
 | some (.int _) => some false
 | some .string => some true
 | _ => none
def resBin (P : Program) (op : BinOp) (xt yt : TypeId) (x y : Operand) : Option PO :=
 match P.underlying xt with
 | some (.int k) => bif isShift op then (intT P yt).map fun k' => .shift op k k' (resX x) (resX y) else some (.bin op k (resX x) (resX y))
 | some .string => some (.strop op (resX x) (resX y))
 | some .bool => some (.boolop op (resX x) (resX y))
 | some (.slice _) => match y with
  | .const (.slice none 0 0) => some (.nilop op .slice (resX x))
  | _ => none
 | some (.pointer e) => match y with
  | .const (.pointer none) => some (.nilop op .pointer (resX x))
  | _ => match szOf P e with
   | some (_ + 1) => some (.ptrEq op (resX x) (resX y))
   | _ => none
 | some (.array n e) => (plainT P e).bind fun str => bif szOf P e == some 1 && aggT P e == some false && !P.eqGuardType P.depth xt then some (.arrEq op str n (resX x) (resX y)) else none
 | some (.map _ _) => match y with
  | .const (.map none) => some (.nilop op .map (resX x))
  | _ => none
 | some (.func _ _ _) => match y with
  | .const .nilFunc => some (.nilop op .func (resX x))
  | _ => none
 | some (.interface _) => match y with
  | .const .nilIface => some (.nilop op .iface (resX x))
  | _ => none
 | _ => none
def resBuiltin (P : Program) (b : Builtin) (ot : TypeId) (ats : Array TypeId) (args : List Operand) : Option PO :=
 match b, args with
 | .len, [x] => (ats[0]?).bind fun t => match P.underlying t with
  | some .string => some (.lenStr (resX x))
  | some (.slice _) => some (.lenS (resX x))
  | some (.array n _) => some (.lenC n)
  | _ => none
 | .unsafeSliceData, [x] => some (.slData (resX x))
 | .cap, [x] => (ats[0]?).bind fun t => match P.underlying t with
  | some (.slice _) => some (.capS (resX x))
  | _ => none
 | .min, x :: r => (intT P ot).map fun k => .mm false k (resX x) (r.map resX)
 | .max, x :: r => (intT P ot).map fun k => .mm true k (resX x) (r.map resX)
 | _, _ => none
def resP (P : Program) (o : Oper) : Option PO :=
 match o.op with
 | .move x | .assign x => some (.mv (resX x))
 | .pick c a b => some (.pick (resX c) (resX a) (resX b))
 | .build t ps => (zeroVs P t).bind fun z => match P.underlying t with
  | some (.struct fs) => (placesT P fs.toList).bind fun pl => (resParts (fun i => pl[i]?) ps.toList).map fun l => .build z l
  | some (.array _ e) => (szOf P e).bind fun sz => (resParts (fun i => some (i * sz, sz)) ps.toList).map fun l => .build z l
  | _ => none
 | .binOp op xt x y yt => resBin P op xt yt x y
 | .unOp op _ x => match op with
  | .neg => some (.neg (resX x))
  | .xor => some (.inv (resX x))
  | .not => some (.not (resX x))
  | _ => none
 | .convert s d x => match P.underlying s, P.underlying d with
  | some (.int k), some (.int k') => some (.convI k k' (resX x))
  | some .string, some .string => some (.convS (resX x))
  | _, _ => none
 | .slice t x lo hi mx => match P.underlying t with
  | some .string => bif mx.isNone then some (.slStr (resX x) (lo.map resX) (hi.map resX)) else none
  | some (.slice e) => (szOf P e).map fun sz => .slS sz (resX x) (lo.map resX) (hi.map resX) (mx.map resX)
  | _ => none
 | .fieldAddr t x f => (fieldT P t f).map fun (fo, _, _) => .fieldA fo (resX x)
 | .field t x f => (fieldT P t f).bind fun (fo, ft, n) => (aggT P ft).map fun g => .field fo n g (resX x)
 | .indexAddr t x i => match P.underlying t with
  | some (.array len e) => (szOf P e).map fun sz => .idxA len sz (resX x) (resX i)
  | some (.slice e) => (szOf P e).map fun sz => .idxS sz (resX x) (resX i)
  | _ => none
 | .index t x i => match P.underlying t with
  | some (.array len e) => (szOf P e).bind fun sz => (aggT P e).map fun g => .idxV len sz g (resX x) (resX i)
  | some .string => some (.idxStr (resX x) (resX i))
  | _ => none
 | .extract x i => some (.ext (resX x) i)
 | .nilCheck x => some (.nilck (resX x))
 | .makeInterface t x => match P.underlying t with
  | some (.interface _) => none
  | some _ => some (.mkIf t (resX x))
  | none => none
 | .makeFunc f first caps => some (.mkFn f (first.toList.map resX) (caps.toList.map resX))
 | .sliceToArrayPointer arr x => match P.underlying arr with
  | some (.array n _) => some (.arrAt n (resX x))
  | _ => none
 | .call c => match c.callee with
  | .builtin b => resBuiltin P b o.type c.argTypes c.args.toList
  | _ => none
 | _ => none
end Go.Fm
namespace Go.Fm
section
variable {P : Program} {β : Nat → Nat × Nat} {kn : Nat → Prop} {t : Tr 3 V} {a : Act} {N : Nat} {ds : List Deferred}
theorem run_size {t : TypeId} {n : Nat} (h : szOf P t = some n) (w : World) : (sizeOf t).run P w = .ok n w := by
 unfold szOf at h
 cases hq : P.info? t with
 | none => simp [hq] at h
 | some i => simp [hq] at h; simp [sizeOf, typeInfo, hq, h]
theorem run_agg {t : TypeId} {g : Bool} (h : aggT P t = some g) (w : World) : (isAgg t).run P w = .ok g w := by
 unfold aggT at h
 cases hq : P.underlying t with
 | none => simp [hq] at h
 | some d =>
  simp [hq] at h
  subst h
  unfold isAgg
  rw [Sem.run_bind, run_underlying hq w]
  cases d <;> simp [isAggD]
theorem run_zero {t : TypeId} {z : List V} (h : zeroVs P t = some z) : ∃ zv : Value, (∀ w, (zeroValue t).run P w = .ok zv w) ∧ zv.cells.size = z.length ∧ (∀ β kn, VRow β kn zv.cells 0 z) := by
 simp only [zeroVs, oBs, oMs] at h
 obtain ⟨i, hi, zv, hz, rfl⟩ := h
 refine ⟨zv, fun w => by simp [zeroValue, typeInfo, hi, hz], by simp, fun β kn => ⟨by simp, fun i v x h1 h2 => ?_⟩⟩
 simp only [List.getElem?_map, Array.getElem?_toList, oMs] at h1
 obtain ⟨y, hy, rfl⟩ := h1
 rw [Nat.zero_add, hy] at h2; injection h2 with h2; subst h2
 exact constV1_ok y
theorem addr_add (b off n : Nat) : (⟨b, off, none⟩ : Addr).add n = ⟨b, off + n, none⟩ := by unfold Addr.add; split <;> simp_all
theorem leI_iff {a b : Int} (h : leI a b = true) : a ≤ b := by simpa [leI] using h
theorem ltI_iff {a b : Int} (h : ltI a b = true) : a < b := by simpa [ltI] using h
theorem VRow.cut {xs : Array Value} {off : Nat} {vs : List V} (h : VRow β kn xs off vs) (o n : Nat) (hl : o ≤ vs.length) : VRow β kn xs (off + o) (cut o n vs) := by
 refine ⟨?_, fun i v x h1 h2 => ?_⟩
 ·have := h.1; simp [Fm.cut]; omega
 ·have hi : i < n := by
   have := (gEs h1).1
   simp [Fm.cut] at this; omega
  rw [Fm.cut, List.getElem?_take_of_lt hi, List.getElem?_drop] at h1
  exact h.2 (o + i) v x h1 (by rw [← Nat.add_assoc]; exact h2)
theorem VRow.extract {xs : Array Value} {off : Nat} {vs : List V} (h : VRow β kn xs off vs) : VRow β kn (xs.extract off (off + vs.length)) 0 vs ∧ (xs.extract off (off + vs.length)).size = vs.length := by
 have h1 := h.1
 have hsz : (xs.extract off (off + vs.length)).size = vs.length := by simp; omega
 refine ⟨⟨by omega, fun i v x h2 h3 => ?_⟩, hsz⟩
 have hi : i < vs.length := (gEs h2).1
 rw [Nat.zero_add, Array.getElem?_extract] at h3
 have h4 : i < min (off + vs.length) xs.size - off := by omega
 rw [if_pos h4] at h3
 exact h.2 i v x h2 h3
theorem mkV_ok {g : Bool} {n : Nat} {cs : List V} {v : V} (h : mkV g n cs = some v) : cs.length = n ∧ ((g = true ∧ v = .agg cs) ∨ (g = false ∧ cs = [v])) := by
 unfold mkV at h
 cases hn : (cs.length == n) with
 | false => simp [hn] at h
 | true =>
  simp at hn
  refine ⟨hn, ?_⟩
  cases g with
  | true => simp [hn] at h; exact .inl ⟨rfl, h.symm⟩
  | false =>
   simp only [hn, beq_self_eq_true, cond_true, cond_false] at h
   split at h
   ·simp at h; subst h; exact .inr ⟨rfl, rfl⟩
   ·simp at h
theorem row_value {g : Bool} {n off : Nat} {xs : Array Value} {cs : List V} {v : V} (hr : VRow β kn xs off cs) (h : mkV g n cs = some v) :
  (g = true ∧ VR β kn v (.agg (xs.extract off (off + n)))) ∨ (g = false ∧ ∃ x, xs[off]? = some x ∧ VR β kn v x) := by
 obtain ⟨hn, ⟨rfl, rfl⟩ | ⟨rfl, rfl⟩⟩ := mkV_ok h
 ·subst hn
  obtain ⟨h1, h2⟩ := hr.extract
  exact .inl ⟨rfl, .agg _ _ h2 (by simpa using h1.2)⟩
 ·have h1 := hr.1
  have hlt : off < xs.size := by simp at h1; omega
  exact .inr ⟨rfl, xs[off], by simp [hlt], hr.2 0 v _ rfl (by simp [hlt])⟩
theorem run_part_agg {t : TypeId} {n : Nat} (hg : aggT P t = some true) (hn : szOf P t = some n) (cs : Array Value) (off : Nat) (w : World) :
  (part t cs off).run P w = .ok (.agg (cs.extract off (off + n))) w := by
 simp [part, run_agg hg, run_size hn]
theorem run_part_one {t : TypeId} (hg : aggT P t = some false) {cs : Array Value} {off : Nat} {v : Value} (hv : cs[off]? = some v) (w : World) :
  (part t cs off).run P w = .ok v w := by
 simp [part, run_agg hg, hv]
theorem part_ok {t : TypeId} {g : Bool} {n off : Nat} {xs : Array Value} {cs : List V} {v : V} (hg : aggT P t = some g) (hn : szOf P t = some n) (hr : VRow β kn xs 0 cs) (he : mkV g n (cut off n cs) = some v) (hn0 : n ≠ 0 ∨ off ≤ cs.length) :
  ∃ x, (∀ w, (part t xs off).run P w = .ok x w) ∧ VR β kn v x := by
 have hle : off ≤ cs.length := by
  rcases hn0 with h0 | h0
  ·have := (mkV_ok he).1
   simp [cut] at this; omega
  ·exact h0
 have hr' := hr.cut off n hle
 rw [Nat.zero_add] at hr'
 rcases row_value hr' he with ⟨rfl, h1⟩ | ⟨rfl, x, h1, h2⟩
 ·exact ⟨_, run_part_agg hg hn xs off, h1⟩
 ·exact ⟨x, run_part_one hg h1, h2⟩
theorem field_ok {t : TypeId} {f : Nat} {fo ft n : Nat} (h : fieldT P t f = some (fo, ft, n)) :
  ∃ fs x, P.underlying t = some (.struct fs) ∧ fs[f]? = some x ∧ x.offset = fo ∧ x.type = ft ∧ szOf P ft = some n ∧ n ≠ 0 := by
 simp only [fieldT, oBs] at h
 obtain ⟨d, hd, h⟩ := h
 cases d <;> simp only [oBs, reduceCtorEq] at h
 rename_i fs
 obtain ⟨x, hx, m, hm, h⟩ := h
 cases hz : (m == 0) with
 | true => simp [hz] at h
 | false =>
  simp [hz] at h
  obtain ⟨rfl, rfl, rfl⟩ := h
  exact ⟨fs, x, hd, hx, rfl, rfl, hm, by simpa using hz⟩
def POk (P : Program) (β : Nat → Nat × Nat) (kn : Nat → Prop) (v : V) (s : Sem Value) : Prop := ∃ x, (∀ w, s.run P w = .ok x w) ∧ VR β kn v x
theorem fieldA_ok {ty : TypeId} {f fo ft n : Nat} {x : Operand} {v : V} (ht : TR β kn t a N ds) (hf : fieldT P ty f = some (fo, ft, n)) (he : evP (.fieldA fo (resX x)) t = some v) :
  POk P β kn v (Instr.fieldAt ty (a.eval x) f) := by
 obtain ⟨fs, y, h1, h2, rfl, rfl, h3, h4⟩ := field_ok hf
 have hx := val_ok ht x
 simp only [evP] at he
 split at he
 ·rename_i id off hv
  rw [hv] at hx
  simp at he; subst he
  generalize a.eval x = q at hx
  cases hx with
  | ptr id off hk =>
   refine ⟨.pointer (some ⟨(β id).1, off + y.offset, none⟩), fun w => ?_, .ptr _ _ hk⟩
   simp [Instr.fieldAt, run_underlying h1, h2, Instr.sureAddr, fieldPlace, run_size h3, h4, addr_add]
 ·simp at he
theorem fieldV_ok {ty : TypeId} {f fo ft n : Nat} {g : Bool} {x : Operand} {v : V} (ht : TR β kn t a N ds) (hf : fieldT P ty f = some (fo, ft, n)) (hg : aggT P ft = some g)
  (he : evP (.field fo n g (resX x)) t = some v) : POk P β kn v (Instr.field ty (a.eval x) f) := by
 obtain ⟨fs, y, h1, h2, rfl, rfl, h3, h4⟩ := field_ok hf
 simp only [evP, oBs] at he
 obtain ⟨cs, hc, he⟩ := he
 obtain ⟨xs, hx, h5, h6⟩ := asAgg_ok hc (val_ok ht x)
 obtain ⟨r, h7, h8⟩ := part_ok hg h3 h6 he (.inl h4)
 exact ⟨r, fun w => by simp [Instr.field, run_underlying h1, h2, Go.asAgg, hx, h7], h8⟩
theorem idxA_ok {ty e : TypeId} {len sz : Nat} {x i : Operand} {v : V} (ht : TR β kn t a N ds) (hu : P.underlying ty = some (.array len e)) (hs : szOf P e = some sz)
  (he : evP (.idxA len sz (resX x) (resX i)) t = some v) : POk P β kn v (Instr.indexAt ty (a.eval x) (a.eval i)) := by
 have hx := val_ok ht x
 simp only [evP] at he
 split at he
 ·rename_i id off hv
  rw [hv] at hx
  simp only [oBs] at he
  obtain ⟨n, hn, he⟩ := he
  obtain ⟨k, hi⟩ := asInt_ok hn (val_ok ht i)
  cases hc : (leI 0 n && ltI n len) with
  | false => simp [hc] at he
  | true =>
   simp [hc] at he; subst he
   simp at hc
   have h1 := leI_iff hc.1; have h2 := ltI_iff hc.2
   generalize a.eval x = q at hx
   cases hx with
   | ptr id off hk =>
    refine ⟨_, fun w => ?_, .ptr id (off + n.toNat * sz) hk⟩
    simp [Instr.indexAt, asIntOf, hi, run_underlying hu, Instr.sureAddr, h1, h2, run_size hs, addr_add]
 ·simp at he
theorem idxS_ok {ty e : TypeId} {sz : Nat} {x i : Operand} {v : V} (ht : TR β kn t a N ds) (hu : P.underlying ty = some (.slice e)) (hs : szOf P e = some sz)
  (he : evP (.idxS sz (resX x) (resX i)) t = some v) : POk P β kn v (Instr.indexAt ty (a.eval x) (a.eval i)) := by
 have hx := val_ok ht x
 simp only [evP] at he
 split at he
 ·rename_i id off len cap sz' hv
  rw [hv] at hx
  simp only [oBs] at he
  obtain ⟨n, hn, he⟩ := he
  obtain ⟨k, hi⟩ := asInt_ok hn (val_ok ht i)
  cases hc : (leI 0 n && ltI n len) with
  | false => simp [hc] at he
  | true =>
   simp [hc] at he; subst he
   simp at hc
   have h1 := leI_iff hc.1; have h2 := ltI_iff hc.2
   generalize a.eval x = q at hx
   cases hx with
   | sl id off len cap sz' c o hk g1 g2 g3 g4 =>
    have ho : o = off := by omega
    subst ho
    refine ⟨_, fun w => ?_, .ptr id (o + n.toNat * sz) hk⟩
    simp [Instr.indexAt, asIntOf, hi, run_underlying hu, h1, h2, run_size hs, addr_add]
 ·simp at he
theorem idxV_ok {ty e : TypeId} {len sz : Nat} {g : Bool} {x i : Operand} {v : V} (ht : TR β kn t a N ds) (hu : P.underlying ty = some (.array len e)) (hs : szOf P e = some sz) (hg : aggT P e = some g)
  (he : evP (.idxV len sz g (resX x) (resX i)) t = some v) : POk P β kn v (Instr.index ty (a.eval x) (a.eval i)) := by
 simp only [evP, oBs] at he
 obtain ⟨cs, hc, n, hn, he⟩ := he
 obtain ⟨xs, hx, h5, h6⟩ := asAgg_ok hc (val_ok ht x)
 obtain ⟨k, hi⟩ := asInt_ok hn (val_ok ht i)
 cases hq : (leI 0 n && ltI n len) with
 | false => simp [hq] at he
 | true =>
  simp only [hq, cond_true] at he
  simp at hq
  have h1 := leI_iff hq.1; have h2 := ltI_iff hq.2
  by_cases h0 : sz ≠ 0 ∨ n.toNat * sz ≤ cs.length
  ·obtain ⟨r, h7, h8⟩ := part_ok hg hs h6 he h0
   exact ⟨r, fun w => by simp [Instr.index, asIntOf, hi, hx, run_underlying hu, h1, h2, run_size hs, h7], h8⟩
  ·simp at h0; simp [h0.1] at h0
theorem idxStr_ok {ty : TypeId} {x i : Operand} {v : V} (ht : TR β kn t a N ds) (hu : P.underlying ty = some .string)
  (he : evP (.idxStr (resX x) (resX i)) t = some v) : POk P β kn v (Instr.index ty (a.eval x) (a.eval i)) := by
 simp only [evP, oBs] at he
 obtain ⟨s, hc, n, hn, he⟩ := he
 have hx := asStr_ok hc (val_ok ht x)
 obtain ⟨k, hi⟩ := asInt_ok hn (val_ok ht i)
 cases hq : leI 0 n with
 | false => simp [hq] at he
 | true =>
  simp only [hq, cond_true, oMs] at he
  obtain ⟨c, hc, rfl⟩ := he
  have h1 := leI_iff hq
  exact ⟨.int .u8 c.toNat, fun w => by simp [Instr.index, asIntOf, hi, hx, run_underlying hu, h1, hc], .int _ _⟩
theorem ext_ok {x : Operand} {i : Nat} {v : V} (ht : TR β kn t a N ds) (he : evP (.ext (resX x) i) t = some v) : POk P β kn v (Instr.extract (a.eval x) i) := by
 have hx := val_ok ht x
 simp only [evP] at he
 split at he
 ·rename_i vs hv
  rw [hv] at hx
  generalize a.eval x = q at hx
  cases hx with
  | tup vs xs h1 h2 =>
   have hlt : i < xs.size := by rw [h1]; exact (gEs he).1
   exact ⟨xs[i], fun w => by simp [Instr.extract, hlt], h2 i v _ he (by simp [hlt])⟩
 ·simp at he
theorem eqNe_ok {op : BinOp} {b : Bool} {v : V} (h : eqNe op b = some v) : (op = .eql ∧ v = .bool b) ∨ (op = .neq ∧ v = .bool (!b)) := by
 cases op <;> simp [eqNe] at h
 ·exact .inl ⟨rfl, h.symm⟩
 ·exact .inr ⟨rfl, h.symm⟩
theorem eqlIn_ptr {t e : TypeId} (hu : P.underlying t = some (.pointer e)) (m : Nat) (b : Option Addr) (w : World) : (Op.equalIn (m + 1) t (.pointer b) (.pointer none)).run P w = .ok b.isNone w := by
 cases b <;> simp [Op.equalIn, run_underlying hu]
theorem eqlIn_map {t k e : TypeId} (hu : P.underlying t = some (.map k e)) (m : Nat) (b : Option Nat) (w : World) : (Op.equalIn (m + 1) t (.map b) (.map none)).run P w = .ok b.isNone w := by
 cases b <;> simp [Op.equalIn, run_underlying hu]
theorem eqlIn_func {t : TypeId} {p q : Array TypeId} {s : Bool} (hu : P.underlying t = some (.func p q s)) (m : Nat) (x : Value) (b : Bool) (hx : (x = .nilFunc ∧ b = true) ∨ (b = false ∧ ∃ f y z, x = .func f y z)) (w : World) :
  (Op.equalIn (m + 1) t x .nilFunc).run P w = .ok b w := by
 rcases hx with ⟨rfl, rfl⟩ | ⟨rfl, f, y, z, rfl⟩ <;> simp [Op.equalIn, run_underlying hu]
theorem eqlIn_iface {t : TypeId} {ms : Array (String × TypeId)} (hu : P.underlying t = some (.interface ms)) (m : Nat) (x : Value) (b : Bool) (hx : (x = .nilIface ∧ b = true) ∨ (b = false ∧ ∃ f y, x = .iface f y)) (w : World) :
  (Op.equalIn (m + 1) t x .nilIface).run P w = .ok b w := by
 rcases hx with ⟨rfl, rfl⟩ | ⟨rfl, f, y, rfl⟩ <;> simp [Op.equalIn, run_underlying hu]
theorem bin_of_eql {op : BinOp} {t : TypeId} {x y : Value} {b : Bool} {v : V} (h : eqNe op b = some v) (hp : (∀ k n, x ≠ .int k n) ∧ (∀ k n, x ≠ .float k n) ∧ (∀ k n m, x ≠ .complex k n m) ∧ (∀ s, x ≠ .string s))
  (he : ∀ w, (Op.equal t x y).run P w = .ok b w) : POk P β kn v (binOp op t x y) := by
 obtain ⟨p1, p2, p3, p4⟩ := hp
 rcases eqNe_ok h with ⟨rfl, rfl⟩ | ⟨rfl, rfl⟩
 ·refine ⟨.bool b, fun w => ?_, .bool _⟩
  cases x <;> first | exact absurd rfl (p1 _ _) | exact absurd rfl (p2 _ _) | exact absurd rfl (p3 _ _ _) | exact absurd rfl (p4 _) | (simp [binOp, he])
 ·refine ⟨.bool (!b), fun w => ?_, .bool _⟩
  cases x <;> first | exact absurd rfl (p1 _ _) | exact absurd rfl (p2 _ _) | exact absurd rfl (p3 _ _ _) | exact absurd rfl (p4 _) | (simp [binOp, he])
end
end Go.Fm
namespace Go.Fm
section
variable {P : Program} {β : Nat → Nat × Nat} {kn : Nat → Prop} {t : Tr 3 V} {a : Act} {N : Nat} {ds : List Deferred}
theorem bif_some' {α : Type} {b : Bool} {x : Option α} {y : α} (h : (bif b then x else none) = some y) : b = true ∧ x = some y := by
 cases b with
 | false => simp at h
 | true => exact ⟨rfl, h⟩
theorem eqCell_ok {e : TypeId} {str : Bool} (hp : plainT P e = some str) {v v' : V} {x y : Value} {b : Bool} (hv : VR β kn v x) (hv' : VR β kn v' y) (h : eqCell str v v' = some b) (d : Nat) (w : World) : (Op.equalIn (d + 1) e x y).run P w = .ok b w := by
 unfold plainT at hp
 unfold eqCell at h
 split at hp
 ·rename_i k0 hu
  injection hp with hp; subst hp
  simp only [cond_false] at h
  split at h
  ·have hk := (bif_some' h).1
   replace h := (bif_some' h).2
   simp only [beq_iff_eq] at hk
   injection h with h; subst h hk
   cases hv; cases hv'
   simp [Op.equalIn, run_underlying hu]
  ·cases h
 ·rename_i hu
  injection hp with hp; subst hp
  simp only [cond_true, oBs, oMs] at h
  obtain ⟨p, hp, q, hq, rfl⟩ := h
  rw [asStr_ok hp hv, asStr_ok hq hv']
  have : (p == q) = (p.data.toList == q.data.toList) := by
   obtain ⟨p⟩ := p; obtain ⟨q⟩ := q
   show (p == q) = _
   rw [← Array.beq_toList]
  simp [Op.equalIn, run_underlying hu, this]
 ·cases hp
theorem arrLoop_ok {e : TypeId} {str : Bool} (hp : plainT P e = some str) (hg : aggT P e = some false) (d : Nat) (w : World) {xs ys : Array Value} : ∀ {l l' : List V} {k : Nat} {b : Bool},
  (∀ (i : Nat) (v : V) (x : Value), l[i]? = some v → xs[k + i]? = some x → VR β kn v x) → (∀ (i : Nat) (v : V) (x : Value), l'[i]? = some v → ys[k + i]? = some x → VR β kn v x) →
  k + l.length ≤ xs.size → k + l'.length ≤ ys.size → eqCells str l l' = some b →
  (do
   let r ← forIn (List.range' k l.length) ((none, ()) : Option Bool × Unit) fun i _ => do
    if (!(← Op.equalIn (d + 1) e (← part e xs (i * 1)) (← part e ys (i * 1)))) = true then pure (ForInStep.done (some false, ())) else pure (ForInStep.yield (none, ()))
   match r.1 with
   | some a => pure a
   | none => pure true : Sem Bool).run P w = .ok b w
 | [], [], k, b, _, _, _, _, h => by
  simp only [eqCells, oSi] at h; subst h
  simp
 | v :: l, v' :: l', k, b, hx, hy, hxs, hys, h => by
  simp only [eqCells, oBs] at h
  obtain ⟨c, hc, h⟩ := h
  simp only [List.length_cons] at hxs hys
  have e1 : xs[k]? = some xs[k] := by simp
  have e2 : ys[k]? = some ys[k] := by simp
  have r1 := hx 0 v _ rfl e1
  have r2 := hy 0 v' _ rfl e2
  have h1 := eqCell_ok hp r1 r2 hc d w
  simp only [List.length_cons, List.range'_succ, List.forIn_cons, Nat.mul_one, Sem.run_bind, run_part_one hg e1, run_part_one hg e2, Result.andThen_ok, h1]
  cases c with
  | false =>
   simp only [cond_false, oSi] at h; subst h
   simp
  | true =>
   simp only [cond_true] at h
   have ih := arrLoop_ok hp hg d w (l := l) (l' := l') (k := k + 1) (fun i v x a b => hx (i + 1) v x (by simpa using a) (by rw [← b]; congr 1; omega)) (fun i v x a b => hy (i + 1) v x (by simpa using a) (by rw [← b]; congr 1; omega)) (by omega) (by omega) h
   simp only [Bool.not_true, Bool.false_eq_true, if_false, Sem.run_pure, Result.andThen_ok]
   simp only [Nat.mul_one, Sem.run_bind] at ih
   exact ih
 | [], _ :: _, _, _, _, _, _, _, h => by simp [eqCells] at h
 | _ :: _, [], _, _, _, _, _, _, h => by simp [eqCells] at h
theorem arrEq_run' (d : Nat) {t e : TypeId} {n : Nat} {str : Bool} (hu : P.underlying t = some (.array n e)) (hp : plainT P e = some str) (hs : szOf P e = some 1) (hg : aggT P e = some false) {xs ys : Array Value} {l l' : List V} {b : Bool}
  (hx : VR β kn (.agg l) (.agg xs)) (hy : VR β kn (.agg l') (.agg ys)) (hl : l.length = n) (hl' : l'.length = n) (h : eqCells str l l' = some b) (w : World) : (Op.equalIn (d + 1 + 1) t (.agg xs) (.agg ys)).run P w = .ok b w := by
 cases hx with
 | agg _ _ h1 h2 =>
 cases hy with
 | agg _ _ h3 h4 =>
 have := arrLoop_ok hp hg d w (l := l) (l' := l') (k := 0) (fun i v x a b => h2 i v x a (by simpa using b)) (fun i v x a b => h4 i v x a (by simpa using b)) (by omega) (by omega) h
 rw [hl] at this
 rw [← this]
 rw [Op.equalIn]
 simp only [Sem.run_bind, run_underlying hu, Result.andThen_ok, run_size hs]
 rw [Std.Legacy.Range.forIn_eq_forIn_range']
 simp only [Std.Legacy.Range.size, Nat.sub_zero, Nat.add_one_sub_one, Nat.div_one, Sem.run_bind]
 congr 1
 congr 1
 funext a w'
 obtain ⟨r, u⟩ := a
 cases r <;> rfl
theorem arrEq_run {t e : TypeId} {n : Nat} {str : Bool} (hu : P.underlying t = some (.array n e)) (hp : plainT P e = some str) (hs : szOf P e = some 1) (hg : aggT P e = some false) {xs ys : Array Value} {l l' : List V} {b : Bool}
  (hx : VR β kn (.agg l) (.agg xs)) (hy : VR β kn (.agg l') (.agg ys)) (hl : l.length = n) (hl' : l'.length = n) (h : eqCells str l l' = some b) (w : World) : (Op.equal t (.agg xs) (.agg ys)).run P w = .ok b w :=
 arrEq_run' 9998 hu hp hs hg hx hy hl hl' h w
theorem eqlIn_same {t e : TypeId} {sz : Nat} (hu : P.underlying t = some (.pointer e)) (hsz : szOf P e = some (sz + 1)) (d b o o' : Nat) (w : World) : (Op.equalIn (d + 1) t (.pointer (some ⟨b, o, none⟩)) (.pointer (some ⟨b, o', none⟩))).run P w = .ok (o == o') w := by
 simp only [Op.equalIn, Sem.run_bind, run_underlying hu, Result.andThen_ok, run_size hsz]
 have hb : ((⟨b, o, none⟩ : Addr) == ⟨b, o', none⟩) = (o == o') := by
  rw [Bool.eq_iff_iff]; simp
 simp [sameAddr, hb]
theorem resBin_ok {op : BinOp} {xt yt : TypeId} {x y : Operand} {p : PO} {v : V} (ht : TR β kn t a N ds) (hr : resBin P op xt yt x y = some p) (he : evP p t = some v) :
  POk P β kn v (do eqGuard op xt x y (a.eval x) (a.eval y); binOp op xt (a.eval x) (a.eval y)) := by
 have hx := val_ok ht x
 have hy := val_ok ht y
 have guard : ∀ {u q : Value}, a.eval x = u → plainV u = true → POk P β kn v (binOp op xt (a.eval x) (a.eval y)) → POk P β kn v (do eqGuard op xt x y (a.eval x) (a.eval y); binOp op xt (a.eval x) (a.eval y)) := by
  rintro u q rfl hu ⟨z, h1, h2⟩
  exact ⟨z, fun w => by rw [Sem.run_bind, run_eqGuard hu w]; simpa using h1 w, h2⟩
 unfold resBin at hr
 split at hr
 ·rename_i k hu
  cases hs : isShift op with
  | true =>
   simp only [hs, cond_true, oMs] at hr
   obtain ⟨k', _, rfl⟩ := hr
   simp only [evP, oBs] at he
   obtain ⟨p, hp, q, hq, he⟩ := he
   have ex := asIntK_ok hp hx
   have ey := asIntK_ok hq hy
   refine guard (q := .nilFunc) ex rfl ?_
   rw [ex, ey]
   exact shiftOp_ok he xt
  | false =>
   simp only [hs, cond_false, oSi] at hr; subst hr
   simp only [evP, oBs] at he
   obtain ⟨p, hp, q, hq, he⟩ := he
   have ex := asIntK_ok hp hx
   have ey := asIntK_ok hq hy
   refine guard (q := .nilFunc) ex rfl ?_
   rw [ex, ey]
   exact intOp_ok he hs xt
 ·simp only [oSi] at hr; subst hr
  simp only [evP, oBs] at he
  obtain ⟨p, hp, q, hq, he⟩ := he
  have ex := asStr_ok hp hx
  have ey := asStr_ok hq hy
  refine guard (q := .nilFunc) ex rfl ?_
  rw [ex, ey]
  exact strOp_ok he xt
 ·rename_i hu
  simp only [oSi] at hr; subst hr
  simp only [evP, oBs] at he
  obtain ⟨p, hp, q, hq, he⟩ := he
  have ex := asBool_ok hp hx
  have ey := asBool_ok hq hy
  refine guard (q := .nilFunc) ex rfl ?_
  rw [ex, ey]
  exact bin_of_eql he ⟨by simp, by simp, by simp, by simp⟩ (fun w => eql_bool hu p q w)
 ·rename_i e hu
  split at hr
  ·rename_i hyc
   simp only [oSi] at hr; subst hr
   simp only [evP, oBs] at he
   obtain ⟨b, hb, he⟩ := he
   have ey : a.eval (.const (.slice none 0 0)) = .slice none 0 0 := rfl
   generalize hq : val t (resX x) = q at hx hb
   generalize hz : a.eval x = z at hx guard
   rw [ey] at guard ⊢
   cases q <;> simp [nilK] at hb
   ·subst hb; cases hx
    exact guard (q := .nilFunc) rfl rfl (bin_of_eql he ⟨by simp, by simp, by simp, by simp⟩ (fun w => eql_slice hu _ _ _ w))
   ·subst hb; cases hx
    exact guard (q := .nilFunc) rfl rfl (bin_of_eql he ⟨by simp, by simp, by simp, by simp⟩ (fun w => eql_slice hu _ _ _ w))
  ·simp at hr
 ·rename_i e hu
  split at hr
  ·simp only [oSi] at hr; subst hr
   simp only [evP, oBs] at he
   obtain ⟨b, hb, he⟩ := he
   have ey : a.eval (.const (.pointer none)) = .pointer none := rfl
   generalize hq : val t (resX x) = q at hx hb
   generalize hz : a.eval x = z at hx guard
   rw [ey] at guard ⊢
   cases q <;> simp [nilK] at hb
   ·subst hb; cases hx
    exact guard (q := .nilFunc) rfl rfl (bin_of_eql he ⟨by simp, by simp, by simp, by simp⟩ (fun w => eqlIn_ptr hu 9999 _ w))
   ·subst hb; cases hx
    exact guard (q := .nilFunc) rfl rfl (bin_of_eql he ⟨by simp, by simp, by simp, by simp⟩ (fun w => eqlIn_ptr hu 9999 _ w))
  ·split at hr
   ·rename_i sz hsz
    simp only [oSi] at hr; subst hr
    simp only [evP] at he
    split at he
    ·rename_i i o i' o' hvx hvy
     have hi := (bif_some' he).1
     replace he := (bif_some' he).2
     simp only [beq_iff_eq] at hi
     subst hi
     rw [hvx] at hx; rw [hvy] at hy
     generalize hzx : a.eval x = zx at hx guard
     generalize hzy : a.eval y = zy at hy guard
     cases hx with
     | ptr _ _ hk1 =>
     cases hy with
     | ptr _ _ hk2 =>
     exact guard (q := .nilFunc) rfl rfl (bin_of_eql (b := (o == o')) he ⟨by simp, by simp, by simp, by simp⟩ (fun w => eqlIn_same hu hsz 9999 _ _ _ w))
    ·simp at he
   ·simp at hr
 ·rename_i n e hu
  simp only [oBs] at hr
  obtain ⟨str, hstr, hr⟩ := hr
  obtain ⟨hc, hr⟩ := bif_some' hr
  injection hr with hr; subst hr
  simp only [Bool.and_eq_true, beq_iff_eq, Bool.not_eq_true'] at hc
  obtain ⟨⟨hs1, hg1⟩, hgd⟩ := hc
  simp only [evP, oBs] at he
  obtain ⟨l, hl, l', hl', he⟩ := he
  obtain ⟨hc, he⟩ := bif_some' he
  simp only [Bool.and_eq_true, beq_iff_eq] at hc
  simp only [oBs] at he
  obtain ⟨b, hb, he⟩ := he
  have gx : ∃ xs, a.eval x = .agg xs ∧ VR β kn (.agg l) (.agg xs) := by
   generalize hq : val t (resX x) = q at hx hl
   cases q <;> simp [asAgg] at hl
   subst hl
   generalize a.eval x = z at hx ⊢
   cases hx with
   | agg _ xs h1 h2 => exact ⟨xs, rfl, .agg _ _ h1 h2⟩
  have gy : ∃ xs, a.eval y = .agg xs ∧ VR β kn (.agg l') (.agg xs) := by
   generalize hq : val t (resX y) = q at hy hl'
   cases q <;> simp [asAgg] at hl'
   subst hl'
   generalize a.eval y = z at hy ⊢
   cases hy with
   | agg _ xs h1 h2 => exact ⟨xs, rfl, .agg _ _ h1 h2⟩
  obtain ⟨xs, ex, rx⟩ := gx
  obtain ⟨ys, ey, ry⟩ := gy
  rw [ex, ey]
  obtain ⟨z, h1, h2⟩ := bin_of_eql (β := β) (kn := kn) (y := .agg ys) he ⟨by simp, by simp, by simp, by simp⟩ (fun w => arrEq_run hu hstr hs1 hg1 rx ry hc.1 hc.2 hb w)
  refine ⟨z, fun w => ?_, h2⟩
  have hgu : (eqGuard op xt x y (.agg xs) (.agg ys)).run P w = .ok () w := by
   cases op <;> simp [eqGuard, run_program, hgd]
  rw [Sem.run_bind, hgu]
  simpa using h1 w
 ·rename_i k e hu
  split at hr
  ·simp only [oSi] at hr; subst hr
   simp only [evP, oBs] at he
   obtain ⟨b, hb, he⟩ := he
   have ey : a.eval (.const (.map none)) = .map none := rfl
   generalize hq : val t (resX x) = q at hx hb
   generalize hz : a.eval x = z at hx guard
   rw [ey] at guard ⊢
   cases q <;> simp [nilK] at hb
   ·subst hb; cases hx
    exact guard (q := .nilFunc) rfl rfl (bin_of_eql he ⟨by simp, by simp, by simp, by simp⟩ (fun w => eqlIn_map hu 9999 _ w))
   ·subst hb; cases hx
    exact guard (q := .nilFunc) rfl rfl (bin_of_eql he ⟨by simp, by simp, by simp, by simp⟩ (fun w => eqlIn_map hu 9999 _ w))
  ·simp at hr
 ·rename_i hu
  split at hr
  ·simp only [oSi] at hr; subst hr
   simp only [evP, oBs] at he
   obtain ⟨b, hb, he⟩ := he
   have ey : a.eval (.const .nilFunc) = .nilFunc := rfl
   generalize hq : val t (resX x) = q at hx hb
   generalize hz : a.eval x = z at hx guard
   rw [ey] at guard ⊢
   cases q <;> simp [nilK] at hb
   ·subst hb; cases hx
    exact guard (q := .nilFunc) rfl rfl (bin_of_eql he ⟨by simp, by simp, by simp, by simp⟩ (fun w => eqlIn_func hu 9999 _ _ (.inr ⟨rfl, _, _, _, rfl⟩) w))
   ·subst hb; cases hx
    exact guard (q := .nilFunc) rfl rfl (bin_of_eql he ⟨by simp, by simp, by simp, by simp⟩ (fun w => eqlIn_func hu 9999 _ _ (.inl ⟨rfl, rfl⟩) w))
  ·simp at hr
 ·rename_i ms hu
  split at hr
  ·simp only [oSi] at hr; subst hr
   simp only [evP, oBs] at he
   obtain ⟨b, hb, he⟩ := he
   have ey : a.eval (.const .nilIface) = .nilIface := rfl
   have hg : ∀ (w : World), (eqGuard op xt x (.const .nilIface) (a.eval x) .nilIface).run P w = .ok () w := by
    intro w
    unfold eqGuard
    cases op <;> simp
    all_goals (cases a.eval x <;> simp)
   have fin : POk P β kn v (binOp op xt (a.eval x) .nilIface) → POk P β kn v (do eqGuard op xt x (.const .nilIface) (a.eval x) .nilIface; binOp op xt (a.eval x) .nilIface) := by
    rintro ⟨z, h1, h2⟩
    exact ⟨z, fun w => by rw [Sem.run_bind, hg w]; simpa using h1 w, h2⟩
   rw [ey]
   refine fin ?_
   generalize hq : val t (resX x) = q at hx hb
   generalize hz : a.eval x = z at hx
   cases q <;> simp [nilK] at hb
   ·subst hb; cases hx
    exact bin_of_eql he ⟨by simp, by simp, by simp, by simp⟩ (fun w => eqlIn_iface hu 9999 _ _ (.inr ⟨rfl, _, _, rfl⟩) w)
   ·subst hb; cases hx
    exact bin_of_eql he ⟨by simp, by simp, by simp, by simp⟩ (fun w => eqlIn_iface hu 9999 _ _ (.inl ⟨rfl, rfl⟩) w)
  ·simp at hr
 ·simp at hr
theorem optI_ok (ht : TR β kn t a N ds) {x : Option Operand} {d n : Int} (he : optI t d (x.map resX) = some n) : (x = none ∧ n = d) ∨ ∃ y k, x = some y ∧ a.eval y = .int k n := by
 cases x with
 | none => simp [optI] at he; exact .inl ⟨rfl, he.symm⟩
 | some y =>
  simp only [Option.map_some, optI] at he
  obtain ⟨k, hk⟩ := asInt_ok he (val_ok ht y)
  exact .inr ⟨y, k, rfl, hk⟩
theorem run_bound {k : IntKind} {n : Int} {y : Nat} (h : 0 ≤ n ∧ n ≤ y) (c : BoundsCode) (w : World) : (Instr.sliceBound (.int k n) y c).run P w = .ok n.toNat w := by
 simp [Instr.sliceBound, asIntOf, h]
theorem run_bounds (ht : TR β kn t a N ds) {lo hi : Option Operand} {l u : Int} {len cap : Nat} (hl : optI t 0 (lo.map resX) = some l) (hu : optI t len (hi.map resX) = some u) (h1 : 0 ≤ l) (h2 : l ≤ u) (h3 : u ≤ cap) (s : Bool) (w : World) :
  (Instr.sliceBounds s len cap (lo.map a.eval) (hi.map a.eval) none).run P w = .ok (l.toNat, u.toNat, cap) w := by
 have hu' := optI_ok ht hu
 have hl' := optI_ok ht hl
 have b1 : ∀ k c, (Instr.sliceBound (.int k u) cap c).run P w = .ok u.toNat w := fun k c => run_bound ⟨by omega, h3⟩ c w
 have b2 : ∀ k c, (Instr.sliceBound (.int k l) u.toNat c).run P w = .ok l.toNat w := fun k c => run_bound ⟨h1, by omega⟩ c w
 rcases hu' with ⟨rfl, hu'⟩ | ⟨y, k, rfl, hu'⟩ <;> rcases hl' with ⟨rfl, hl'⟩ | ⟨z, k', rfl, hl'⟩
 ·subst hl'; subst hu'; simp [Instr.sliceBounds]
 ·subst hu'; simp only [Int.toNat_natCast] at b2 ⊢; simp [Instr.sliceBounds, hl', b2]
 ·subst hl'; simp [Instr.sliceBounds, hu', b1]
 ·simp [Instr.sliceBounds, hu', hl', b1, b2]
theorem run_bounds3 (ht : TR β kn t a N ds) {lo hi : Option Operand} {mx : Operand} {l u m : Int} {len cap : Nat} (hl : optI t 0 (lo.map resX) = some l) (hu : optI t len (hi.map resX) = some u) (hs : hi.isSome = true)
  (hm : asInt (val t (resX mx)) = some m) (h1 : 0 ≤ l) (h2 : l ≤ u) (h3 : u ≤ m) (h4 : m ≤ cap) (w : World) :
  (Instr.sliceBounds true len cap (lo.map a.eval) (hi.map a.eval) (some (a.eval mx))).run P w = .ok (l.toNat, u.toNat, m.toNat) w := by
 have hu' := optI_ok ht hu
 have hl' := optI_ok ht hl
 obtain ⟨km, hm'⟩ := asInt_ok hm (val_ok ht mx)
 have b0 : ∀ k c, (Instr.sliceBound (.int k m) cap c).run P w = .ok m.toNat w := fun k c => run_bound ⟨by omega, h4⟩ c w
 have b1 : ∀ k c, (Instr.sliceBound (.int k u) m.toNat c).run P w = .ok u.toNat w := fun k c => run_bound ⟨by omega, by omega⟩ c w
 have b2 : ∀ k c, (Instr.sliceBound (.int k l) u.toNat c).run P w = .ok l.toNat w := fun k c => run_bound ⟨h1, by omega⟩ c w
 rcases hu' with ⟨rfl, hu'⟩ | ⟨y, k, rfl, hu'⟩
 ·simp at hs
 ·rcases hl' with ⟨rfl, hl'⟩ | ⟨z, k', rfl, hl'⟩
  ·subst hl'; simp [Instr.sliceBounds, hm', b0, hu', b1]
  ·simp [Instr.sliceBounds, hm', b0, hu', hl', b1, b2]
theorem room_cut {off cap size l : Nat} (h : l ≤ cap) : off + l * size + (cap - l) * size = off + cap * size := by
 have : (cap - l) * size + l * size = cap * size := by rw [← Nat.add_mul]; congr 1; omega
 omega
theorem slS_ok {ty e : TypeId} {sz : Nat} {x : Operand} {lo hi mx : Option Operand} {v : V} (ht : TR β kn t a N ds) (hu : P.underlying ty = some (.slice e)) (hs : szOf P e = some sz)
  (he : evP (.slS sz (resX x) (lo.map resX) (hi.map resX) (mx.map resX)) t = some v) : POk P β kn v (Instr.sliceAt ty (a.eval x) (lo.map a.eval) (hi.map a.eval) (mx.map a.eval)) := by
 have hx := val_ok ht x
 simp only [evP] at he
 split at he
 ·rename_i id off len cap sz' hv
  rw [hv] at hx
  cases hz : (sz' == sz) with
  | false => simp [hz] at he
  | true =>
  simp only [hz, cond_true] at he
  simp at hz; subst hz
  simp only [oBs] at he
  obtain ⟨u, hh, l, hl, he⟩ := he
  generalize hae : a.eval x = q at hx
  cases hx with
  | sl id off len cap sz' c o hk g1 g2 g3 g4 =>
  have hcap : cap.getD len ≤ c := by
   cases cap with
   | none => simpa using g1
   | some k => simp [g3 k rfl]
  have fin : ∀ (m : Nat), l.toNat ≤ u.toNat → u.toNat ≤ m → m ≤ c →
    (∀ w, (Instr.sliceBounds true len c (lo.map a.eval) (hi.map a.eval) (mx.map a.eval)).run P w = .ok (l.toNat, u.toNat, m) w) → ∀ (cp : Option Nat), (∀ k, cp = some k → m - l.toNat = k) →
    POk P β kn (.sl id (off + l.toNat * sz') (u.toNat - l.toNat) cp sz') (Instr.sliceAt ty (.slice (some ⟨(β id).1, o, none⟩) len c) (lo.map a.eval) (hi.map a.eval) (mx.map a.eval)) := by
   intro m q1 q2 q3 hb cp hcp
   refine ⟨.slice (some ⟨(β id).1, if m = l.toNat then o else o + l.toNat * sz', none⟩) (u.toNat - l.toNat) (m - l.toNat), fun w => ?_, ?_⟩
   ·simp only [Instr.sliceAt, Sem.run_bind, run_underlying hu, Result.andThen_ok]
    simp only [Instr.slice, Sem.run_bind, run_underlying hu, Result.andThen_ok, hb, run_size hs]
    by_cases hml : m = l.toNat
    ·simp [hml]
    ·simp [hml, addr_add]
   ·refine .sl id _ _ _ _ _ _ hk (by omega) ?_ hcp ?_
    ·by_cases hml : m = l.toNat
     ·rw [if_pos hml, hml]
      have : o ≤ o + c * sz' := Nat.le_add_right _ _
      simp; omega
     ·rw [if_neg hml]
      have e1 := room_cut (off := o) (cap := m) (size := sz') (l := l.toNat) (by omega)
      have e2 : m * sz' ≤ c * sz' := Nat.mul_le_mul_right _ q3
      omega
    ·by_cases hml : m = l.toNat
     ·right; omega
     ·rw [if_neg hml]
      rcases g4 with g4 | g4
      ·left; rw [g4]
      ·right; omega
  cases mx with
  | none =>
   simp only [Option.map_none] at he fin ⊢
   cases hc : (leI 0 l && leI l u && leI u (cap.getD len)) with
   | false => simp [hc] at he
   | true =>
    simp only [hc, cond_true, oSi] at he; subst he
    simp only [Bool.and_eq_true] at hc
    have c1 := leI_iff hc.1.1; have c2 := leI_iff hc.1.2; have c3 := leI_iff hc.2
    refine fin c (by omega) (by omega) (Nat.le_refl _) (fun w => run_bounds ht hl hh c1 c2 (by omega) true w) _ (fun k hk' => ?_)
    cases cap with
    | none => simp at hk'
    | some k2 => simp at hk'; rw [g3 k2 rfl]; exact hk'
  | some mo =>
   simp only [Option.map_some, oBs] at he fin ⊢
   obtain ⟨m, hm, he⟩ := he
   cases hc : ((hi.map resX).isSome && leI 0 l && leI l u && leI u m && leI m (cap.getD len)) with
   | false => simp only [hc, cond_false, reduceCtorEq] at he
   | true =>
    simp only [hc, cond_true, oSi] at he; subst he
    simp only [Bool.and_eq_true] at hc
    obtain ⟨⟨⟨⟨c0, c1⟩, c2⟩, c3⟩, c4⟩ := hc
    have c1 := leI_iff c1; have c2 := leI_iff c2; have c3 := leI_iff c3; have c4 := leI_iff c4
    refine fin m.toNat (by omega) (by omega) (by omega) (fun w => run_bounds3 ht hl hh (by simpa using c0) hm c1 c2 c3 (by omega) w) _ (fun k hk' => ?_)
    simpa using hk'
 ·rename_i hv
  rw [hv] at hx
  cases mx with
  | some m =>
   simp only [Option.map_some, oBs] at he
   obtain ⟨k, hk, u, hh, l, hl, he⟩ := he
   obtain ⟨hc, he⟩ := bif_some' he
   injection he with he; subst he
   simp only [Bool.and_eq_true, beq_iff_eq] at hc
   obtain ⟨⟨⟨c0, rfl⟩, rfl⟩, rfl⟩ := hc
   generalize hae : a.eval x = q at hx
   cases hx
   refine ⟨.slice none 0 0, fun w => ?_, .nils⟩
   have hb := run_bounds3 (P := P) (cap := 0) (len := 0) ht hl (by simpa using hh) (by simpa using c0) hk (Int.le_refl _) (Int.le_refl _) (Int.le_refl _) (by simp) w
   simp only [Option.map_some, Instr.sliceAt, Sem.run_bind, run_underlying hu, Result.andThen_ok]
   simp only [Instr.slice, Sem.run_bind, run_underlying hu, Result.andThen_ok, hb, run_size hs]
   simp
  | none =>
   simp only [Option.map_none, oBs] at he
   obtain ⟨u, hh, l, hl, he⟩ := he
   cases hc : (u == 0 && l == 0) with
   | false => simp [hc] at he
   | true =>
    simp [hc] at he; subst he
    simp at hc
    obtain ⟨rfl, rfl⟩ := hc
    generalize hae : a.eval x = q at hx
    cases hx
    refine ⟨.slice none 0 0, fun w => ?_, .nils⟩
    have hb := run_bounds (P := P) (cap := 0) ht hl (len := 0) (by simpa using hh) (Int.le_refl _) (Int.le_refl _) (by simp) true w
    simp only [Option.map_none, Instr.sliceAt, Sem.run_bind, run_underlying hu, Result.andThen_ok]
    simp only [Instr.slice, Sem.run_bind, run_underlying hu, Result.andThen_ok, hb, run_size hs]
    simp
 ·simp at he
theorem slStr_ok {ty : TypeId} {x : Operand} {lo hi : Option Operand} {v : V} (ht : TR β kn t a N ds) (hu : P.underlying ty = some .string)
  (he : evP (.slStr (resX x) (lo.map resX) (hi.map resX)) t = some v) : POk P β kn v (Instr.sliceAt ty (a.eval x) (lo.map a.eval) (hi.map a.eval) none) := by
 simp only [evP, oBs] at he
 obtain ⟨s, hs, u, hh, l, hl, he⟩ := he
 rw [asStr_ok hs (val_ok ht x)]
 cases hc : (leI 0 l && leI l u && leI u s.size) with
 | false => simp [hc] at he
 | true =>
  simp [hc] at he; subst he
  simp at hc
  have hb := fun w => run_bounds (P := P) ht hl hh (leI_iff hc.1.1) (leI_iff hc.1.2) (leI_iff hc.2) false w
  exact ⟨.string (s.extract l.toNat u.toNat), fun w => by simp [Instr.sliceAt, Instr.slice, run_underlying hu, hb], .str _⟩
theorem mm_ok (ht : TR β kn t a N ds) {mx : Bool} {k : IntKind} {n : Int} : ∀ {r : List Operand} {b : Int}, mmX mx k t b (r.map resX) = some n →
  ∀ w, ((r.map a.eval).foldlM (bif mx then Builtin.max2 else Builtin.min2) (.int k b)).run P w = .ok (.int k n) w
 | [], b, he, w => by simp [mmX] at he; subst he; simp
 | x :: r, b, he, w => by
  simp only [List.map_cons, mmX, oBs] at he
  obtain ⟨c, hc, he⟩ := he
  have hx := asIntK_ok hc (val_ok ht x)
  have ih := mm_ok ht he w
  cases mx with
  | true => simp only [cond_true, List.map_cons, List.foldlM_cons, hx, Sem.run_bind, Builtin.max2, Sem.run_pure, Result.andThen_ok, mmI] at ih ⊢; exact ih
  | false => simp only [cond_false, List.map_cons, List.foldlM_cons, hx, Sem.run_bind, Builtin.min2, Sem.run_pure, Result.andThen_ok, mmI] at ih ⊢; exact ih
end
end Go.Fm
namespace Go.Fm
theorem seg_get {α : Type} (l vs : List α) (off i : Nat) (h : off + vs.length ≤ l.length) :
  (l.take off ++ vs ++ l.drop (off + vs.length))[i]? = if i < off then l[i]? else if i < off + vs.length then vs[i - off]? else l[i]? := by
 have hto : (l.take off).length = off := by simp; omega
 split
 ·rename_i h1
  rw [List.append_assoc, List.getElem?_append_left (by omega), List.getElem?_take_of_lt h1]
 ·rename_i h1
  split
  ·rename_i h2
   rw [List.append_assoc, List.getElem?_append_right (by omega), List.getElem?_append_left (by omega), hto]
  ·rename_i h2
   rw [List.getElem?_append_right (by simp; omega), List.getElem?_drop]
   congr 1
   simp; omega
theorem seg_len {α : Type} (l vs : List α) (off : Nat) (h : off + vs.length ≤ l.length) : (l.take off ++ vs ++ l.drop (off + vs.length)).length = l.length := by
 simp; omega
section
variable {P : Program} {β : Nat → Nat × Nat} {kn : Nat → Prop} {t : Tr 3 V} {a : Act} {N : Nat} {ds : List Deferred}
theorem foldl_set (l : List Value) (cs : Array Value) (off : Nat) (k : Nat) (h : off + k + l.length ≤ cs.size) :
  ((l.zipIdx k).foldl (fun cs (x : Value × Nat) => cs.setIfInBounds (off + x.2) x.1) cs).toList = cs.toList.take (off + k) ++ l ++ cs.toList.drop (off + k + l.length) := by
 induction l generalizing cs k with
 | nil => simp
 | cons v r ih =>
  simp only [List.zipIdx_cons, List.foldl_cons]
  rw [ih _ _ (by simp at h ⊢; omega)]
  have e := list_seg_step cs.toList (off + k) v r (by simp at h ⊢; omega)
  simpa [Array.toList_setIfInBounds, Nat.add_assoc] using e
theorem VRow.seg {cs vs : Array Value} {us es : List V} {off : Nat} (h : VRow β kn cs 0 us) (hv : VRow β kn vs 0 es) (hvs : vs.size = es.length) (hl : off + es.length ≤ us.length)
  {cs' : Array Value} (he : cs'.toList = cs.toList.take off ++ vs.toList ++ cs.toList.drop (off + vs.toList.length)) : VRow β kn cs' 0 (us.take off ++ es ++ us.drop (off + es.length)) ∧ cs'.size = cs.size := by
 have h1 := h.1
 have hsz : cs'.size = cs.size := by rw [← Array.length_toList, he, seg_len _ _ _ (by simp; omega)]; simp
 have hd := seg_len us es off hl
 refine ⟨⟨by omega, fun i d c e1 e2 => ?_⟩, hsz⟩
 rw [seg_get _ _ _ _ hl] at e1
 rw [Nat.zero_add, ← Array.getElem?_toList, he, seg_get _ _ _ _ (by simp; omega)] at e2
 simp only [Array.length_toList, hvs] at e2
 split at e1
 ·rename_i q; rw [if_pos q] at e2; exact h.2 i d c e1 (by simpa using e2)
 ·rename_i q
  rw [if_neg q] at e2
  split at e1
  ·rename_i q2; rw [if_pos q2] at e2; exact hv.2 (i - off) d c e1 (by simpa using e2)
  ·rename_i q2; rw [if_neg q2] at e2; exact h.2 i d c e1 (by simpa using e2)
theorem fillX_ok (ht : TR β kn t a N ds) {pl : Nat → Option (Nat × Nat)} : ∀ {ps : List (Nat × Operand)} {l : List (Nat × Nat × X)} {us out : List V} {cs : Array Value},
  resParts pl ps = some l → fillX t us l = some out → VRow β kn cs 0 us →
  ∃ cs', Instr.fill pl cs (ps.map fun (i, x) => (i, a.eval x)) = some cs' ∧ VRow β kn cs' 0 out ∧ cs'.size = cs.size ∧ out.length = us.length
 | [], l, us, out, cs, hr, h, hc => by
  simp [resParts] at hr; subst hr
  simp [fillX] at h; subst h
  exact ⟨cs, rfl, hc, rfl, rfl⟩
 | (i, x) :: r, l, us, out, cs, hr, h, hc => by
  simp only [resParts, oBs, oSi] at hr
  obtain ⟨⟨o, n⟩, hpl, l', hl', rfl⟩ := hr
  simp only [fillX, oBs] at h
  obtain ⟨v, hv, h⟩ := h
  cases hb : (v.length == n && Nat.ble (o + n) us.length) with
  | false => simp [hb] at h
  | true =>
   simp only [hb, cond_true] at h
   simp only [Bool.and_eq_true, beq_iff_eq] at hb
   obtain ⟨rfl, hle⟩ := hb
   have hle := nLb hle
   obtain ⟨c1, c2⟩ := cellsV_ok hv (val_ok ht x)
   generalize hu : a.eval x = u at c1 c2
   have h1 := hc.1
   have hf := foldl_set u.cells.toList cs o 0 (by simp; omega)
   have hz : (u.cells.zipIdx.foldl (fun cs (x : Value × Nat) => cs.setIfInBounds (o + x.2) x.1) cs) = ((u.cells.toList.zipIdx 0).foldl (fun cs (x : Value × Nat) => cs.setIfInBounds (o + x.2) x.1) cs) := by
    rw [← Array.foldl_toList]; simp
   rw [← hz] at hf
   simp only [Nat.add_zero] at hf
   obtain ⟨r1, r2⟩ := hc.seg c2 c1 hle hf
   obtain ⟨cs', g1, g2, g3, g4⟩ := fillX_ok ht hl' h r1
   refine ⟨cs', ?_, g2, by omega, by rw [g4, seg_len _ _ _ hle]⟩
   have h4 : ¬ (u.cells.size ≠ v.length ∨ cs.size < o + u.cells.size) := by omega
   simp only [List.map_cons, hu, Instr.fill, hpl]
   rw [if_neg (by simpa using h4)]
   exact g1
theorem run_places : ∀ {l : List Field} {pl : List (Nat × Nat)}, placesT P l = some pl → ∀ w : World, (l.mapM fun f => do pure (f.offset, ← sizeOf f.type) : Sem (List (Nat × Nat))).run P w = .ok pl w
 | [], pl, h, w => by simp [placesT] at h; subst h; simp
 | f :: r, pl, h, w => by
  simp only [placesT, oBs] at h
  obtain ⟨n, hn, l, hl, h⟩ := h
  injection h with h; subst h
  have ih := run_places hl w
  simp [run_size hn] at ih ⊢
  simp [ih]
theorem build_ok (ht : TR β kn t a N ds) {ty : TypeId} {ps : Array (Nat × Operand)} {z : List V} {l : List (Nat × Nat × X)} {v : V} (hz : zeroVs P ty = some z)
  (hc : (∃ fs pl, P.underlying ty = some (.struct fs) ∧ placesT P fs.toList = some pl ∧ resParts (fun i => pl[i]?) ps.toList = some l) ∨
   ∃ n e sz, P.underlying ty = some (.array n e) ∧ szOf P e = some sz ∧ resParts (fun i => some (i * sz, sz)) ps.toList = some l) (he : evP (.build z l) t = some v) :
  POk P β kn v (Instr.build ty (ps.map fun (i, x) => (i, a.eval x))) := by
 obtain ⟨zv, h1, h2, h3⟩ := run_zero hz
 simp only [evP, oMs] at he
 obtain ⟨out, hf, rfl⟩ := he
 have e1 : (ps.map fun (i, x) => (i, a.eval x)).toList = ps.toList.map fun (i, x) => (i, a.eval x) := by simp
 rcases hc with ⟨fs, pl, hu, hpl, hp⟩ | ⟨n, e, sz, hu, hsz, hp⟩
 ·obtain ⟨cs', g1, g2, g3, g4⟩ := fillX_ok ht hp hf (h3 β kn)
  refine ⟨.agg cs', fun w => ?_, .agg _ _ (by omega) (by simpa using g2.2)⟩
  have hm : (fs.mapM fun f => do pure (f.offset, ← sizeOf f.type) : Sem (Array (Nat × Nat))).run P w = .ok pl.toArray w := by
   rw [Array.mapM_eq_mapM_toList]
   have := run_places hpl w
   simp at this ⊢
   simp [this]
  simp only [Instr.build, Sem.run_bind, h1, run_underlying hu, Result.andThen_ok, hm, e1]
  have e2 : (fun i : Nat => pl.toArray[i]?) = fun i => pl[i]? := by funext i; simp
  rw [e2, g1]
  simp
 ·obtain ⟨cs', g1, g2, g3, g4⟩ := fillX_ok ht hp hf (h3 β kn)
  refine ⟨.agg cs', fun w => ?_, .agg _ _ (by omega) (by simpa using g2.2)⟩
  simp only [Instr.build, Sem.run_bind, h1, run_underlying hu, Result.andThen_ok, run_size hsz, e1, g1]
  simp
theorem resBuiltin_ok (ht : TR β kn t a N ds) {b : Builtin} {ot : TypeId} {ats : Array TypeId} {args : Array Operand} {cs : Array Bool} {p : PO} {v : V} (hr : resBuiltin P b ot ats args.toList = some p) (he : evP p t = some v) :
  ∃ x, (∀ w, (builtin b ats ot cs (args.map a.eval)).run P w = .ok (.value x) w) ∧ VR β kn v x := by
 unfold resBuiltin at hr
 split at hr
 ·rename_i x hargs
  have hargs' : args = #[x] := by apply Array.ext'; simpa using hargs
  subst hargs'
  simp only [oBs] at hr
  obtain ⟨at0, hat, hr⟩ := hr
  have ha0 : ats[0]? = some at0 := hat
  have hx := val_ok ht x
  split at hr
  ·rename_i hu
   simp only [oSi] at hr; subst hr
   simp only [evP, oMs] at he
   obtain ⟨s, hs, rfl⟩ := he
   have ex := asStr_ok hs hx
   exact ⟨_, fun w => by simp [builtin, Builtin.len_, ha0, run_underlying hu, goInt, ex], .int _ _⟩
  ·rename_i e hu
   simp only [oSi] at hr; subst hr
   simp only [evP] at he
   generalize hq : val t (resX x) = q at hx he
   generalize hz : a.eval x = z at hx
   cases q <;> simp at he
   ·subst he; cases hx
    exact ⟨_, fun w => by simp [builtin, Builtin.len_, ha0, run_underlying hu, goInt, hz], .int _ _⟩
   ·subst he; cases hx
    exact ⟨_, fun w => by simp [builtin, Builtin.len_, ha0, run_underlying hu, goInt, hz], .int _ _⟩
  ·rename_i n e hu
   simp only [oSi] at hr; subst hr
   simp only [evP, oSi] at he; subst he
   exact ⟨_, fun w => by simp [builtin, Builtin.len_, ha0, run_underlying hu, goInt], .int _ _⟩
  ·simp at hr
 ·rename_i x hargs
  have hargs' : args = #[x] := by apply Array.ext'; simpa using hargs
  subst hargs'
  simp only [oSi] at hr; subst hr
  have hx := val_ok ht x
  simp only [evP] at he
  split at he
  ·rename_i hq
   rw [hq] at hx
   simp only [oSi] at he; subst he
   generalize hz : a.eval x = z at hx
   cases hx
   have e1 : Builtin.unsafeSliceData_ ats ot #[.slice none 0 0] = pure (.pointer none) := rfl
   exact ⟨_, fun w => by simp [builtin, hz, e1], .nilp⟩
  ·rename_i id off len cap sz hq
   rw [hq] at hx
   have h0 := (bif_some' he).1
   replace he := (bif_some' he).2
   simp only [oSi] at he; subst he
   have h0 : 0 < len := nLb h0
   generalize hz : a.eval x = z at hx
   cases hx with
   | sl id off len cap sz c o hk g1 g2 g3 g4 =>
   have ho : o = off := by omega
   subst ho
   have hc : c ≠ 0 := by omega
   have e1 : ∃ s, Builtin.unsafeSliceData_ ats ot #[.slice (some ⟨(β id).1, o, none⟩) len c] = (if c ≠ 0 then pure (.pointer (some ⟨(β id).1, o, none⟩)) else s) := ⟨_, rfl⟩
   obtain ⟨s, e1⟩ := e1
   rw [if_pos hc] at e1
   exact ⟨_, fun w => by simp [builtin, hz, e1], .ptr _ _ hk⟩
  ·cases he
 ·rename_i x hargs
  have hargs' : args = #[x] := by apply Array.ext'; simpa using hargs
  subst hargs'
  simp only [oBs] at hr
  obtain ⟨at0, hat, hr⟩ := hr
  have ha0 : ats[0]? = some at0 := hat
  have hx := val_ok ht x
  split at hr
  ·rename_i e hu
   simp only [oSi] at hr; subst hr
   simp only [evP] at he
   split at he
   ·rename_i c sz hq
    rw [hq] at hx
    generalize hz : a.eval x = z at hx
    simp at he; subst he
    cases hx with
    | sl id off len cap sz' c' o hk g1 g2 g3 g4 =>
     obtain rfl := g3 c rfl
     exact ⟨_, fun w => by simp [builtin, Builtin.cap_, ha0, run_underlying hu, goInt, hz], .int _ _⟩
   ·rename_i hq
    rw [hq] at hx
    generalize hz : a.eval x = z at hx
    simp at he; subst he
    cases hx
    exact ⟨_, fun w => by simp [builtin, Builtin.cap_, ha0, run_underlying hu, goInt, hz], .int _ _⟩
   ·simp at he
  ·simp at hr
 ·rename_i x r hargs
  simp only [oMs] at hr
  obtain ⟨k, _, rfl⟩ := hr
  simp only [evP, oBs, oMs] at he
  obtain ⟨b, hb, n, hn, rfl⟩ := he
  have hx := asIntK_ok hb (val_ok ht x)
  have := mm_ok (P := P) ht hn
  refine ⟨.int k n, fun w => ?_, .int _ _⟩
  have e : (args.map a.eval).toList = .int k b :: r.map a.eval := by simp [hargs, hx]
  simp only [builtin, Builtin.min_, e, Sem.run_bind]
  have h := this w
  simp only [cond_false] at h
  rw [h]; rfl
 ·rename_i x r hargs
  simp only [oMs] at hr
  obtain ⟨k, _, rfl⟩ := hr
  simp only [evP, oBs, oMs] at he
  obtain ⟨b, hb, n, hn, rfl⟩ := he
  have hx := asIntK_ok hb (val_ok ht x)
  have := mm_ok (P := P) ht hn
  refine ⟨.int k n, fun w => ?_, .int _ _⟩
  have e : (args.map a.eval).toList = .int k b :: r.map a.eval := by simp [hargs, hx]
  simp only [builtin, Builtin.max_, e, Sem.run_bind]
  have h := this w
  simp only [cond_true] at h
  rw [h]; rfl
 ·simp at hr
theorem nilck_ok {x : Operand} {v : V} (ht : TR β kn t a N ds) (he : evP (.nilck (resX x)) t = some v) {o : Oper} (ho : o.op = .nilCheck x) : ∃ y, (∀ w, (execOp a.eval o).run P w = .ok (.value y) w) ∧ VR β kn v y := by
 have hx := val_ok ht x
 simp only [evP] at he
 split at he
 ·rename_i id off hq
  rw [hq] at hx
  simp only [oSi] at he; subst he
  generalize hz : a.eval x = z at hx
  cases hx with
  | ptr id off hk => exact ⟨_, fun w => by simp [execOp, ho, hz], .ptr _ _ hk⟩
 ·rename_i f first caps hq
  rw [hq] at hx
  simp only [oSi] at he; subst he
  generalize hz : a.eval x = z at hx
  cases hx with
  | fn f first caps xs ys h1 h2 h3 h4 => exact ⟨_, fun w => by simp [execOp, ho, hz], .fn _ _ _ _ _ h1 h2 h3 h4⟩
 ·rename_i ty uu hq
  rw [hq] at hx
  simp only [oSi] at he; subst he
  generalize hz : a.eval x = z at hx
  cases hx with
  | ifc ty uu y h1 => exact ⟨_, fun w => by simp [execOp, ho, hz], .ifc _ _ _ h1⟩
 ·simp at he
theorem lift {o : Oper} {s : Sem Value} {v : V} (h : POk P β kn v s) (he : execOp a.eval o = (do pure (Next.value (← s)))) : ∃ x, (∀ w, (execOp a.eval o).run P w = .ok (.value x) w) ∧ VR β kn v x := by
 obtain ⟨x, h1, h2⟩ := h
 exact ⟨x, fun w => by rw [he]; simp [h1], h2⟩
theorem vals_ok (ht : TR β kn t a N ds) (l : Array Operand) : (l.map a.eval).size = ((l.toList.map resX).map (val t)).length ∧
  ∀ (i : Nat) (v : V) (x : Value), ((l.toList.map resX).map (val t))[i]? = some v → (l.map a.eval)[i]? = some x → VR β kn v x := by
 refine ⟨by simp, fun i v x h1 h2 => ?_⟩
 simp only [List.getElem?_map, Array.getElem?_toList, oMs, Array.getElem?_map] at h1 h2
 obtain ⟨y, ⟨z, hz, rfl⟩, rfl⟩ := h1
 obtain ⟨z', hz', rfl⟩ := h2
 rw [hz] at hz'; injection hz' with hz'; subst hz'
 exact val_ok ht z
theorem evP_ok (ht : TR β kn t a N ds) {o : Oper} {p : PO} {v : V} (hr : resP P o = some p) (he : evP p t = some v) : ∃ x, (∀ w, (execOp a.eval o).run P w = .ok (.value x) w) ∧ VR β kn v x := by
 unfold resP at hr
 split at hr
 ·rename_i x ho
  simp only [oSi] at hr; subst hr
  simp only [evP, oSi] at he; subst he
  exact ⟨_, fun w => by simp [execOp, ho], val_ok ht x⟩
 ·rename_i x ho
  simp only [oSi] at hr; subst hr
  simp only [evP, oSi] at he; subst he
  exact ⟨_, fun w => by simp [execOp, ho], val_ok ht x⟩
 ·rename_i c x y ho
  simp only [oSi] at hr; subst hr
  simp only [evP, oBs] at he
  obtain ⟨q, hq, he⟩ := he
  have hc := asBool_ok hq (val_ok ht c)
  cases q with
  | true => simp at he; subst he; exact ⟨_, fun w => by simp [execOp, ho, hc, Go.asBool], val_ok ht x⟩
  | false => simp at he; subst he; exact ⟨_, fun w => by simp [execOp, ho, hc, Go.asBool], val_ok ht y⟩
 ·rename_i ty ps ho
  simp only [oBs] at hr
  obtain ⟨z, hz, hr⟩ := hr
  split at hr
  ·rename_i fs hu
   simp only [oBs, oMs] at hr
   obtain ⟨pl, hpl, l, hl, rfl⟩ := hr
   exact lift (build_ok ht hz (.inl ⟨fs, pl, hu, hpl, hl⟩) he) (by simp [execOp, ho])
  ·rename_i n e hu
   simp only [oBs, oMs] at hr
   obtain ⟨sz, hsz, l, hl, rfl⟩ := hr
   exact lift (build_ok ht hz (.inr ⟨n, e, sz, hu, hsz, hl⟩) he) (by simp [execOp, ho])
  ·simp at hr
 ·rename_i op xt x y yt ho
  exact lift (resBin_ok ht hr he) (by simp [execOp, ho])
 ·rename_i op ty x ho
  split at hr
  ·simp only [oSi] at hr; subst hr
   simp only [evP] at he
   split at he
   ·rename_i k n hv
    have hx := val_ok ht x
    rw [hv] at hx
    simp only [oSi] at he; subst he
    generalize hz : a.eval x = z at hx
    cases hx
    exact ⟨.int k _, fun w => by simp [execOp, ho, hz, Op.unary, Op.intArith], .int _ _⟩
   ·simp at he
  ·simp only [oSi] at hr; subst hr
   simp only [evP] at he
   split at he
   ·rename_i k n hv
    have hx := val_ok ht x
    rw [hv] at hx
    simp only [oSi] at he; subst he
    generalize hz : a.eval x = z at hx
    cases hx
    exact ⟨.int k _, fun w => by simp [execOp, ho, hz, Op.unary, Op.intBits], .int _ _⟩
   ·simp at he
  ·simp only [oSi] at hr; subst hr
   simp only [evP, oMs] at he
   obtain ⟨b, hb, rfl⟩ := he
   have hx := asBool_ok hb (val_ok ht x)
   exact ⟨.bool _, fun w => by simp [execOp, ho, hx, Op.unary], .bool _⟩
  ·simp at hr
 ·rename_i s d x ho
  split at hr
  ·rename_i k k' hs hd
   simp only [oSi] at hr; subst hr
   simp only [evP, oMs] at he
   obtain ⟨n, hn, rfl⟩ := he
   have hx := asIntK_ok hn (val_ok ht x)
   exact ⟨.int _ _, fun w => by simp [execOp, ho, hx, convert, run_underlying hs, run_underlying hd, Conv.intToInt], .int _ _⟩
  ·rename_i hs hd
   simp only [oSi] at hr; subst hr
   simp only [evP, oMs] at he
   obtain ⟨n, hn, rfl⟩ := he
   have hx := asStr_ok hn (val_ok ht x)
   exact ⟨.string _, fun w => by simp [execOp, ho, hx, convert, run_underlying hs, run_underlying hd], .str _⟩
  ·simp at hr
 ·rename_i ty x lo hi mx ho
  split at hr
  ·rename_i hu
   cases mx with
   | some m => simp at hr
   | none =>
    simp only [Option.isNone_none, cond_true, oSi] at hr; subst hr
    exact lift (slStr_ok ht hu he) (by simp [execOp, ho])
  ·rename_i e hu
   simp only [oMs] at hr
   obtain ⟨sz, hsz, rfl⟩ := hr
   exact lift (slS_ok ht hu hsz he) (by simp [execOp, ho])
  ·simp at hr
 ·rename_i ty x f ho
  simp only [oMs] at hr
  obtain ⟨⟨fo, ft, n⟩, hf, rfl⟩ := hr
  exact lift (fieldA_ok ht hf he) (by simp [execOp, ho])
 ·rename_i ty x f ho
  simp only [oBs, oMs] at hr
  obtain ⟨⟨fo, ft, n⟩, hf, g, hg, rfl⟩ := hr
  exact lift (fieldV_ok ht hf hg he) (by simp [execOp, ho])
 ·rename_i ty x i ho
  split at hr
  ·rename_i len e hu
   simp only [oMs] at hr
   obtain ⟨sz, hsz, rfl⟩ := hr
   exact lift (idxA_ok ht hu hsz he) (by simp [execOp, ho])
  ·rename_i e hu
   simp only [oMs] at hr
   obtain ⟨sz, hsz, rfl⟩ := hr
   exact lift (idxS_ok ht hu hsz he) (by simp [execOp, ho])
  ·simp at hr
 ·rename_i ty x i ho
  split at hr
  ·rename_i len e hu
   simp only [oBs, oMs] at hr
   obtain ⟨sz, hsz, g, hg, rfl⟩ := hr
   exact lift (idxV_ok ht hu hsz hg he) (by simp [execOp, ho])
  ·rename_i hu
   simp only [oSi] at hr; subst hr
   exact lift (idxStr_ok ht hu he) (by simp [execOp, ho])
  ·simp at hr
 ·rename_i x i ho
  simp only [oSi] at hr; subst hr
  exact lift (ext_ok ht he) (by simp [execOp, ho])
 ·rename_i x ho
  simp only [oSi] at hr; subst hr
  exact nilck_ok ht he ho
 ·rename_i ty x ho
  split at hr
  ·simp at hr
  ·rename_i d hu hd
   simp only [oSi] at hr; subst hr
   simp only [evP, oSi] at he; subst he
   refine ⟨.iface ty (a.eval x), fun w => ?_, .ifc _ _ _ (val_ok ht x)⟩
   have : (Instr.makeInterface ty (a.eval x)).run P w = .ok (.iface ty (a.eval x)) w := by
    rw [Instr.makeInterface, Sem.run_bind, run_underlying hd, Result.andThen_ok]
    cases d <;> first | rfl | exact absurd rfl (hu _)
   simp [execOp, ho, this]
  ·simp at hr
 ·rename_i f first caps ho
  simp only [oSi] at hr; subst hr
  simp only [evP, oSi] at he; subst he
  obtain ⟨h1, h2⟩ := vals_ok ht first
  obtain ⟨h3, h4⟩ := vals_ok ht caps
  exact ⟨.func f (first.map a.eval) (caps.map a.eval), fun w => by simp [execOp, ho, Instr.makeFunc], .fn _ _ _ _ _ h1 h2 h3 h4⟩
 ·rename_i arr x ho
  split at hr
  ·rename_i n e hu
   simp only [oSi] at hr; subst hr
   simp only [evP] at he
   split at he
   ·rename_i id off len cap sz hv
    have hx := val_ok ht x
    rw [hv] at hx
    generalize hz : a.eval x = z at hx
    cases hc : (Nat.ble n len && Nat.blt 0 len) with
    | false => rw [hc] at he; simp at he
    | true =>
     simp only [hc, cond_true, oSi] at he; subst he
     simp only [Bool.and_eq_true] at hc
     have h1 := nLb hc.1
     have h2 : 0 < len := nLb hc.2
     cases hx with
     | sl id off len cap sz' c o hk g1 g2 g3 g4 =>
      have ho' : o = off := by omega
      subst ho'
      refine ⟨.pointer (some ⟨(β id).1, o, none⟩), fun w => ?_, .ptr _ _ hk⟩
      have : ¬ len < n := by omega
      simp [execOp, ho, hz, Instr.arrayAt, run_underlying hu, this]
   ·simp at he
  ·simp at hr
 ·rename_i c ho
  split at hr
  ·rename_i b hc
   obtain ⟨x, h1, h2⟩ := resBuiltin_ok (cs := c.args.map fun | .const _ => true | _ => false) ht hr he
   refine ⟨x, fun w => ?_, h2⟩
   have : (execOp a.eval o).run P w = (builtin b c.argTypes o.type (c.args.map fun | .const _ => true | _ => false) (c.args.map a.eval)).run P w := by
    simp [execOp, ho, resolve, hc, invoke]
    rfl
   rw [this, h1]
  ·simp at hr
 ·simp at hr
end
end Go.Fm
end
