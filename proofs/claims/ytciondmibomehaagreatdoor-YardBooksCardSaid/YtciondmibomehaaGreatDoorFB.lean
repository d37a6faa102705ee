import Derived.Test.YtciondmibomehaaGreatDoorFA
import Derived.Lib.Builder
import Derived.Lib.UnsafeStr
import Derived.Lib.ConvBytes
import Derived.Laws.BytesArg
set_option maxRecDepth 100000
set_option linter.unusedSectionVars false
set_option linter.unusedVariables false
set_option linter.unusedSimpArgs false
set_option linter.constructorNameAsVariable false
noncomputable section
namespace Go.Fm
def KN (kn : Nat → Prop) (n n' : Nat) : Nat → Prop := fun i => kn i ∨ (n ≤ i ∧ i < n')
inductive MO where
 | load (n : Nat) (g : Bool) (x : X)
 | slArr (len sz : Nat) (x : X) (lo hi : Option X)
 | alloc (z : List V) (T : TypeId)
 | box (x : X) (T : TypeId)
 | buildSl (z : List V) (len sz : Nat) (ps : List (Nat × Nat × X)) (T : TypeId)
 | store (n : Nat) (x y : X)
 | makeSl (z : List V) (sz by_ : Nat) (l c : X) (T : TypeId)
 | append (z : List V) (sz by_ : Nat) (s x : X) (T : TypeId)
 | copy (sz : Nat) (d s : X)
 | mkMap
 | mapSet (x k v : X)
 | lookup (z : V) (ok : Bool) (x k : X)
 | range (x : X)
 | next (x : X)
 | appZ (z : List V) (sz by_ : Nat) (s x : X) (T : TypeId)
 | toU (x : X)
 | frU (tbl : List (TypeId × Nat × Nat)) (x : X)
 | uStr (T : TypeId) (x l : X)
 | toB (x : X)
 | toS (x : X)
 | clr (z : List V) (sz : Nat) (x : X)
def allOne : List V → Bool
 | [] => true
 | .u :: _ => false
 | .agg _ :: _ => false
 | .tup _ :: _ => false
 | _ :: r => allOne r
def replV (z : List V) : Nat → List V
 | 0 => []
 | n + 1 => z ++ replV z n
def roomOk (n bytes : Nat) : Bool := Nat.ble n 4294967296 && Nat.ble (n * bytes) 35184372088832
def rd : Option B → Option (List V)
 | some (.cells cs _) => some cs
 | some (.ro cs) => some cs
 | some (.fix cs _) => some cs
 | _ => none
def bytesL (s : ByteArray) : List V := s.data.toList.map fun b => .int .u8 b.toNat
def bytesV : List V → Option (List UInt8)
 | [] => some []
 | .int .u8 k :: r => bif leI 0 k && leI k 255 then (bytesV r).map fun l => UInt8.ofNat k.toNat :: l else none
 | _ => none
def elsV (m : Mem) (sz : Nat) : V → Option (Nat × List V)
 | .nils => some (0, [])
 | .sl id off len _ sz' => bif sz' == sz then (bif len == 0 then some (0, []) else match rd (m.get id) with
  | some cs => bif Nat.ble (off + len * sz) cs.length then some (len, cut off (len * sz) cs) else none
  | none => none) else none
 | .str s => bif sz == 1 then some (s.size, bytesL s) else none
 | _ => none
def fuel : Nat := 64
def newK (m : Mem) (n : Nat) (b : B) (k : V) : Option (V × Mem × Nat) := (Tr.set fuel m n (some b)).map fun m' => (k, m', n + 1)
def findS (s : ByteArray) : List (ByteArray × V) → Option V
 | [] => none
 | (k, v) :: r => bif s.data.toList == k.data.toList then some v else findS s r
def putS (s : ByteArray) (v : V) : List (ByteArray × V) → List (ByteArray × V)
 | [] => [(s, v)]
 | (k, u) :: r => bif s.data.toList == k.data.toList then (s, v) :: r else (k, u) :: putS s v r
def mapOf (m : Mem) : V → Option (List (ByteArray × V))
 | .nilm => some []
 | .mp id => match m.get id with
  | some (.map es) => some es
  | _ => none
 | _ => none
def isT (b : Option B) (T : TypeId) : Bool := match b with
 | some (.cells _ T') => T' == T
 | _ => false
def newB (m : Mem) (n : Nat) (cs : List V) (T : TypeId) (k : V) : Option (V × Mem × Nat) := (Tr.set fuel m n (some (.cells cs T))).map fun m' => (k, m', n + 1)
def appendV (m : Mem) (n sz by_ : Nat) (T : TypeId) (s : V) (k : Nat) (new : List V) : Option (V × Mem × Nat) :=
 match s with
 | .nils => bif k == 0 then some (.nils, m, n) else bif roomOk k by_ then newB m n new T (.sl n 0 k none sz) else none
 | .sl id off len cap sz' => bif sz' == sz && roomOk (len + k) by_ then
   match cap with
   | some c => bif Nat.ble (len + k) c then
     match m.get id with
     | some (.cells cs T') => bif Nat.ble (off + c * sz) cs.length then
       (Tr.set fuel m id (some (.cells (cs.take (off + len * sz) ++ new ++ cs.drop (off + len * sz + new.length)) T'))).map fun m' => (.sl id off (len + k) cap sz, m', n) else none
     | _ => none
    else
     (elsV m sz s).bind fun (_, old) => newB m n (old ++ new) T (.sl n 0 (len + k) none sz)
   | none => bif off == 0 then
     (elsV m sz s).bind fun (_, old) => bif len + k == 0 || !isT (m.get id) T then none else (Tr.set fuel m id none).bind fun m' => newB m' n (old ++ new) T (.sl n 0 (len + k) none sz)
    else none
  else none
 | _ => none
def evM (o : MO) (t : Tr 3 V) (m : Mem) (n : Nat) : Option (V × Mem × Nat) :=
 match o with
 | .load sz g x => match val t x with
  | .ptr id off => match rd (m.get id) with
   | some cs => bif Nat.ble (off + sz) cs.length then (mkV g sz (cut off sz cs)).map fun v => (v, m, n) else none
   | none => none
  | _ => none
 | .slArr len sz x lo hi => match val t x with
  | .ptr id off => match m.get id with
   | some (.cells cs _) => bif Nat.ble (off + len * sz) cs.length then (optI t len hi).bind fun h => (optI t 0 lo).bind fun l =>
    bif leI 0 l && leI l h && leI h len then some (.sl id (off + l.toNat * sz) (h.toNat - l.toNat) (some (len - l.toNat)) sz, m, n) else none else none
   | _ => none
  | _ => none
 | .alloc z T => newB m n z T (.ptr n 0)
 | .box x T => (cellsV (val t x)).bind fun cs => newB m n cs T (.ptr n 0)
 | .buildSl z len sz ps T => bif Nat.ble (len * sz) 16777216 && z.length == sz then (fillX t (replV z len) ps).bind fun cs => newB m n cs T (.sl n 0 len (some len) sz) else none
 | .store sz x y => match val t x with
  | .ptr id off => match m.get id with
   | some (.cells cs T) => (cellsV (val t y)).bind fun vs => bif vs.length == sz && Nat.ble (off + sz) cs.length && allOne vs then
     (Tr.set fuel m id (some (.cells (cs.take off ++ vs ++ cs.drop (off + sz)) T))).map fun m' => (.tup [], m', n) else none
   | _ => none
  | _ => none
 | .makeSl z sz by_ l c T => (asInt (val t l)).bind fun l => (asInt (val t c)).bind fun c =>
   bif leI 0 l && leI l c && roomOk c.toNat by_ && z.length == sz then newB m n (replV z c.toNat) T (.sl n 0 l.toNat (some c.toNat) sz) else none
 | .append z sz by_ s x T => bif z.length == sz then (elsV m sz (val t x)).bind fun (k, new) => bif allOne new then appendV m n sz by_ T (val t s) k new else none else none
 | .copy sz d s => match val t d with
  | .nils => (elsV m sz (val t s)).map fun _ => (.int .i64 0, m, n)
  | .sl id off len _ sz' => bif sz' == sz then (elsV m sz (val t s)).bind fun (k, new) =>
    let c := min k len
    bif c == 0 then some (.int .i64 0, m, n) else
    match m.get id with
    | some (.cells cs T) => bif Nat.ble (off + c * sz) cs.length && allOne new then
      (Tr.set fuel m id (some (.cells (cs.take off ++ new.take (c * sz) ++ cs.drop (off + c * sz)) T))).map fun m' => (.int .i64 c, m', n) else none
    | _ => none else none
  | _ => none
 | .mkMap => newK m n (.map []) (.mp n)
 | .mapSet x k v => match val t x with
  | .mp id => match m.get id with
   | some (.map es) => (asStr (val t k)).bind fun s => (Tr.set fuel m id (some (.map (putS s (val t v) es)))).map fun m' => (.tup [], m', n)
   | _ => none
  | _ => none
 | .lookup z ok x k => (mapOf m (val t x)).bind fun es => (asStr (val t k)).bind fun s =>
   let r := findS s es
   some (bif ok then .tup [r.getD z, .bool r.isSome] else r.getD z, m, n)
 | .range x => (asStr (val t x)).bind fun s => newK m n (.iter s 0) (.ptr n 0)
 | .next x => match val t x with
  | .ptr id 0 => match m.get id with
   | some (.iter s pos) => bif Nat.blt pos s.size then
     let cw := Utf8.decode s pos
     (Tr.set fuel m id (some (.iter s (pos + cw.2)))).map fun m' => (.tup [.bool true, .int .i64 pos, .int .i32 cw.1], m', n)
    else some (.tup [.bool false], m, n)
   | _ => none
  | _ => none
 | .appZ z sz by_ s x T => bif z.length == sz && allOne z then (asInt (val t x)).bind fun k => bif leI 0 k && roomOk k.toNat by_ then appendV m n sz by_ T (val t s) k.toNat (replV z k.toNat) else none else none
 | .toU x => match val t x with
  | .nilp => some (.nilp, m, n)
  | .ptr id off => match m.get id with
   | some (.cells cs _) => bif Nat.blt off cs.length then some (.ptr id off, m, n) else none
   | _ => none
  | _ => none
 | .frU tbl x => match val t x with
  | .nilp => some (.nilp, m, n)
  | .ptr id off => match m.get id with
   | some (.cells cs T) => bif tbl.any (fun p => p.1 == T && p.2.1 == off && Nat.ble p.2.2 cs.length) then some (.ptr id off, m, n) else none
   | _ => none
  | _ => none
 | .uStr T x l => (asIntK .i64 (val t l)).bind fun l => match val t x with
  | .nilp => bif l == 0 then some (.str ⟨#[]⟩, m, n) else none
  | .ptr id off => bif l == 0 then some (.str ⟨#[]⟩, m, n) else match m.get id with
   | some (.cells cs T') => bif T' == T && off == 0 && leI 1 l && leI l 4294967296 && Nat.ble l.toNat cs.length then (bytesV (cs.take l.toNat)).bind fun b => (Tr.set fuel m id none).map fun m' => (.str ⟨b.toArray⟩, m', n) else none
   | _ => none
  | _ => none
 | .toB x => (asStr (val t x)).bind fun s => newK m n (.ro (bytesL s)) (.sl n 0 s.size none 1)
 | .toS x => match val t x with
  | .str _ => none
  | x => (elsV m 1 x).bind fun (_, cs) => (bytesV cs).map fun b => (.str ⟨b.toArray⟩, m, n)
 | .clr z sz x => match val t x with
  | .nils => some (.tup [], m, n)
  | .sl id off len _ sz' => bif len == 0 then some (.tup [], m, n) else bif sz' == sz && z.length == sz then match m.get id with
   | some (.cells cs T) => bif Nat.ble (off + len * sz) cs.length && allOne (replV z len) then
     (Tr.set fuel m id (some (.cells (cs.take off ++ replV z len ++ cs.drop (off + len * sz)) T))).map fun m' => (.tup [], m', n) else none
   | _ => none else none
  | _ => none
def elemT (P : Program) (t : TypeId) : Option TypeId := (P.underlying t).bind fun | .slice e => some e | _ => none
def bytesT (P : Program) (t : TypeId) : Option Nat := (P.info? t).map (·.bytes)
def textT (P : Program) (t : TypeId) : Bool := match P.underlying t with
 | some (.slice _) | some .string => true
 | _ => false
def byteT (P : Program) (t : TypeId) : Bool := match P.underlying t with
 | some (.int .u8) => szOf P t == some 1 && P.cellsOf t == 1
 | _ => false
def viewsOk [CtxV] (P : Program) (u : TypeId) : Bool := (CtxV.views u).all fun (T, off, c) => liesAt P P.depth T c off u 1 && Nat.blt 0 (P.cellsOf T)
def resConv [CtxV] (P : Program) (src dst : TypeId) (x : X) : Option MO :=
 match P.underlying src, P.underlying dst with
 | some (.pointer t), some .unsafePointer => match szOf P t with
  | some (_ + 1) => some (.toU x)
  | _ => none
 | some .unsafePointer, some (.pointer u) => bif viewsOk P u && (szOf P u).isSome then some (.frU ((CtxV.views u).map fun (T, off, c) => (T, off, c * P.cellsOf T)) x) else none
 | some .string, some (.slice e) => bif byteT P e then some (.toB x) else none
 | some (.slice e), some .string => bif byteT P e then some (.toS x) else none
 | _, _ => none
def resM [CtxV] (P : Program) (o : Oper) : Option MO :=
 match o.op with
 | .load t x => (aggT P t).bind fun g => (szOf P t).map fun n => .load n g (resX x)
 | .slice t x lo hi none => match P.underlying t with
  | some (.array n e) => (szOf P e).map fun sz => .slArr n sz (resX x) (lo.map resX) (hi.map resX)
  | _ => none
 | .alloc t => (zeroVs P t).map fun z => .alloc z t
 | .box t x => some (.box (resX x) t)
 | .buildSlice t len ps => (elemT P t).bind fun e => (szOf P e).bind fun sz => (zeroVs P e).bind fun z => (resParts (fun i => some (i * sz, sz)) ps.toList).map fun l => .buildSl z len sz l e
 | .store t x y => (szOf P t).map fun n => .store n (resX x) (resX y)
 | .makeSlice t l c => (elemT P t).bind fun e => (szOf P e).bind fun sz => (zeroVs P e).bind fun z => (bytesT P e).map fun b => .makeSl z sz b (resX l) (resX c) e
 | .call c => match c.callee, c.args.toList, c.argTypes.toList with
  | .builtin .append, [s, x], [t, t'] => (elemT P t).bind fun e => (szOf P e).bind fun sz => (zeroVs P e).bind fun z => (bytesT P e).bind fun b => bif textT P t' then some (.append z sz b (resX s) (resX x) e) else (intT P t').map fun _ => .appZ z sz b (resX s) (resX x) e
  | .builtin .clear, [x], [t] => (elemT P t).bind fun e => (szOf P e).bind fun sz => (zeroVs P e).map fun z => .clr z sz (resX x)
  | .builtin .unsafeString, [x, l], [t, _] => match P.underlying t with
   | some (.pointer e) => bif byteT P e then some (.uStr e (resX x) (resX l)) else none
   | _ => none
  | .builtin .copy, [d, s], [t, _] => (elemT P t).bind fun e => (szOf P e).map fun sz => .copy sz (resX d) (resX s)
  | _, _, _ => none
 | .convert s d x => resConv P s d (resX x)
 | .makeMap t none => match P.underlying t with
  | some (.map _ _) => some .mkMap
  | _ => none
 | .mapUpdate t x k v | .insert t x k v => match P.underlying t with
  | some (.map kt _) => match P.underlying kt with
   | some .string => some (.mapSet (resX x) (resX k) (resX v))
   | _ => none
  | _ => none
 | .lookup t x k ok => match P.underlying t with
  | some (.map kt e) => match P.underlying kt with
   | some .string => (P.info? e).bind fun i => i.zero.map fun z => .lookup (constV z) ok (resX x) (resX k)
   | _ => none
  | _ => none
 | .range t x => match P.underlying t with
  | some .string => some (.range (resX x))
  | _ => none
 | .next x true => some (.next (resX x))
 | _ => none
section
variable [Ctx] {P : Program} {β : Nat → Nat × Nat} {kn : Nat → Prop} {m m' : Mem} {w w' : World}
structure Goes (β : Nat → Nat × Nat) (kn : Nat → Prop) (m : Mem) (w : World) (β' : Nat → Nat × Nat) (kn' : Nat → Prop) (m' : Mem) (w' : World) : Prop where
 ext : Ext β kn β' kn'
 fr : Fr β m w β' m' w'
 ms : MS β' kn' m' w'
theorem Goes.trans {β1 β2 β3 : Nat → Nat × Nat} {k1 k2 k3 : Nat → Prop} {m1 m2 m3 : Mem} {w1 w2 w3 : World} (h : Goes β1 k1 m1 w1 β2 k2 m2 w2) (h' : Goes β2 k2 m2 w2 β3 k3 m3 w3) : Goes β1 k1 m1 w1 β3 k3 m3 w3 :=
 ⟨h.ext.trans h'.ext, h.fr.trans h'.fr, h'.ms⟩
theorem KN_same (kn : Nat → Prop) (n : Nat) : KN kn n n = kn := by
 funext i; unfold KN; apply propext
 exact ⟨fun h => h.elim id (fun h => by omega), .inl⟩
theorem KN_KN {kn : Nat → Prop} {a b c : Nat} (h1 : a ≤ b) (h2 : b ≤ c) : KN (KN kn a b) b c = KN kn a c := by
 funext i; unfold KN; apply propext
 constructor
 ·rintro ((h | h) | h)
  ·exact .inl h
  ·exact .inr (by omega)
  ·exact .inr (by omega)
 ·rintro (h | h)
  ·exact .inl (.inl h)
  ·rcases Nat.lt_or_ge i b with q | q
   ·exact .inl (.inr (by omega))
   ·exact .inr (by omega)
theorem MS.mono (h : MS β kn m w) {kn' : Nat → Prop} (hk : ∀ i, kn i → kn' i) : MS β kn' m w :=
 ⟨fun id b e => ⟨hk _ (h.blk id b e).1, (h.blk id b e).2.mono fun i hi => ⟨hk i hi, rfl⟩⟩, h.inj, h.gl⟩
theorem Goes.same (h : MS β kn m w) (n : Nat) : Goes β kn m w β (KN kn n n) m w := by
 rw [KN_same]; exact ⟨Ext.refl _ _, Fr.refl _ _ _, h⟩
def Calm (w w' : World) : Prop := w'.os = w.os ∧ w'.tape = w.tape ∧ w'.output = w.output ∧ w'.heap = w.heap
theorem Goes.new (h : MS β kn m w) {n : Nat} (hn : ¬ kn n) {b : B} {o : Obj} {sz : Nat} (hr : BR (fun i => if i = n then (w.heap.size, sz) else β i) (KN kn n (n + 1)) sz b (some o)) (hm : Tr.set fuel m n (some b) = some m')
  {w1 : World} (hw : Calm w w1) : Goes β kn m w (fun i => if i = n then (w.heap.size, sz) else β i) (KN kn n (n + 1)) m' (w1.alloc o) := by
 have hg := Tr.get_set hm
 obtain ⟨h1, h2, h3, h4⟩ := hw
 have hheap : (w1.alloc o).heap = w.heap.push o := by show w1.heap.push _ = _; rw [h4]
 have hext : Ext β kn (fun i => if i = n then (w.heap.size, sz) else β i) (KN kn n (n + 1)) := fun id hk => ⟨.inl hk, by
  have : id ≠ n := fun e => hn (e ▸ hk)
  simp [this]⟩
 have hold : ∀ id b, id ≠ n → m'.get id = some b → m.get id = some b := fun id b hne e => by rw [hg, if_neg hne] at e; exact e
 refine ⟨hext, ⟨h1, h2, h3, by rw [hheap]; simp, fun b hb _ => by rw [hheap, Array.getElem?_push, if_neg (by omega)], fun id c e => ?_⟩, ⟨fun id b e => ?_, fun i j b c e1 e2 e3 => ?_, fun q hq => ?_⟩⟩
 ·by_cases hid : id = n
  ·right; simp [hid]
  ·left; exact ⟨id, c, hold id c hid e, by simp [hid]⟩
 ·by_cases hid : id = n
  ·subst hid
   rw [hg, if_pos rfl] at e
   injection e with e; subst e
   refine ⟨.inr (by omega), ?_⟩
   simp only [if_pos]
   rw [hheap]
   simpa using hr
  ·have e' := hold id b hid e
   obtain ⟨g1, g2⟩ := h.blk id b e'
   refine ⟨.inl g1, ?_⟩
   simp only [if_neg hid]
   rw [hheap, Array.getElem?_push, if_neg (by have := g2.lt; omega)]
   exact g2.mono hext
 ·by_cases hi : i = n <;> by_cases hj : j = n
  ·rw [hi, hj]
  ·have e' := hold j c hj e2
   have := (h.blk j c e').2.lt
   simp [hi, hj] at e3; omega
  ·have e' := hold i b hi e1
   have := (h.blk i b e').2.lt
   simp [hi, hj] at e3; omega
  ·simp [hi, hj] at e3
   exact h.inj i j b c (hold i b hi e1) (hold j c hj e2) e3
 ·obtain ⟨q1, q2⟩ := h.gl q hq
  have hlt := heap_lt q1
  refine ⟨by rw [hheap, Array.getElem?_push, if_neg (by omega)]; exact q1, fun id c e => ?_⟩
  by_cases hid : id = n
  ·subst hid
   simp only [if_pos]
   omega
  ·simp only [if_neg hid]
   exact q2 id c (hold id c hid e)
theorem Goes.new_ext {n : Nat} (hn : ¬ kn n) (x : Nat × Nat) : Ext β kn (fun i => if i = n then x else β i) (KN kn n (n + 1)) := fun id hk => ⟨.inl hk, by
 have : id ≠ n := fun e => hn (e ▸ hk)
 simp [this]⟩
theorem Goes.alloc (h : MS β kn m w) {n : Nat} (hn : ¬ kn n) {cs : List V} {arr : Array Value} {T : TypeId} (hr : VRow β kn arr 0 cs) (hm : Tr.set fuel m n (some (.cells cs T)) = some m')
  {w1 : World} (hw : Calm w w1) : Goes β kn m w (fun i => if i = n then (w.heap.size, arr.size) else β i) (KN kn n (n + 1)) m' (w1.alloc (.cells arr T)) :=
 Goes.new h hn (b := .cells cs T) (sz := arr.size) (show BR _ _ _ (.cells cs T) _ from ⟨arr, rfl, rfl, hr.mono (Goes.new_ext hn _)⟩) hm hw
theorem Goes.turn (h : MS β kn m w) {id n : Nat} {b b' : B} (hid : m.get id = some b) {o' : Obj} (hr : BR β kn (β id).2 b' (some o')) (hm : Tr.set fuel m id (some b') = some m')
  (h1 : w'.os = w.os) (h2 : w'.tape = w.tape) (h3 : w'.output = w.output) (h4 : w'.heap.size = w.heap.size) (hself : w'.heap[(β id).1]? = some o') (hoth : ∀ k, k ≠ (β id).1 → w'.heap[k]? = w.heap[k]?) : Goes β kn m w β (KN kn n n) m' w' := by
 rw [KN_same]
 have hg := Tr.get_set hm
 have hkey : ∀ i b, m'.get i = some b → ∃ c, m.get i = some c := fun i b e => by
  rw [hg] at e
  by_cases hi : i = id
  ·exact ⟨_, hi ▸ hid⟩
  ·rw [if_neg hi] at e; exact ⟨b, e⟩
 refine ⟨Ext.refl _ _, ⟨h1, h2, h3, by omega, fun b _ hno => hoth b (fun e => hno id _ hid e.symm), fun i c e => ?_⟩, ⟨fun i b e => ?_, fun i j b c e1 e2 e3 => ?_, fun q hq => ?_⟩⟩
 ·obtain ⟨c', e'⟩ := hkey i c e
  exact .inl ⟨i, c', e', rfl⟩
 ·by_cases hi : i = id
  ·subst hi
   rw [hg, if_pos rfl] at e; injection e with e; subst e
   exact ⟨(h.blk i _ hid).1, by rw [hself]; exact hr⟩
  ·rw [hg, if_neg hi] at e
   obtain ⟨g1, g2⟩ := h.blk i b e
   refine ⟨g1, ?_⟩
   rw [hoth _ (fun e2 => hi (h.inj i id _ _ e hid e2))]
   exact g2
 ·obtain ⟨b', e1'⟩ := hkey i b e1
  obtain ⟨c', e2'⟩ := hkey j c e2
  exact h.inj i j b' c' e1' e2' e3
 ·obtain ⟨q1, q2⟩ := h.gl q hq
  refine ⟨by rw [hoth _ (fun e => q2 id _ hid e.symm)]; exact q1, fun i c e => ?_⟩
  obtain ⟨c', e'⟩ := hkey i c e
  exact q2 i c' e'
theorem Goes.write (h : MS β kn m w) {id n : Nat} {cs cs' : List V} {T : TypeId} (hid : m.get id = some (.cells cs T)) {arr arr' : Array Value} (hb : w.heap[(β id).1]? = some (.cells arr T (0, 0)))
  (hsz : arr'.size = arr.size) (hr : VRow β kn arr' 0 cs') (hm : Tr.set fuel m id (some (.cells cs' T)) = some m') : Goes β kn m w β (KN kn n n) m' (w.setRow (β id).1 arr') := by
 have hsize : arr.size = (β id).2 := by
  obtain ⟨_, arr2, g1, g2, _⟩ := h.blk id _ hid
  rw [hb] at g1; injection g1 with g1; injection g1 with g3 _ _; rw [g3]; exact g2
 exact Goes.turn h hid (b' := .cells cs' T) (show BR β kn (β id).2 (.cells cs' T) (some (.cells arr' T (0, 0))) from ⟨arr', rfl, by omega, hr⟩) hm rfl rfl rfl (by simp) (setRow_heap w (β id).1 arr arr' T (0, 0) hb) fun k hk => setRow_other w (β id).1 k arr' hk
theorem Goes.drop (h : MS β kn m w) {id : Nat} (hm : Tr.set fuel m id none = some m') : MS β kn m' w ∧ Fr β m w β m' w := by
 have hg := Tr.get_set hm
 have hold : ∀ i b, m'.get i = some b → m.get i = some b := fun i b e => by
  rw [hg] at e
  by_cases hi : i = id
  ·rw [if_pos hi] at e; cases e
  ·rwa [if_neg hi] at e
 exact ⟨⟨fun i b e => h.blk i b (hold i b e), fun i j b c e1 e2 e3 => h.inj i j b c (hold i b e1) (hold j c e2) e3, fun q hq => ⟨(h.gl q hq).1, fun i c e => (h.gl q hq).2 i c (hold i c e)⟩⟩, ⟨rfl, rfl, rfl, Nat.le_refl _, fun _ _ _ => rfl, fun i c e => .inl ⟨i, c, hold i c e, rfl⟩⟩⟩
theorem Goes.move (h : MS β kn m w) {id n : Nat} (hn : ¬ kn n) {cs cs' : List V} {T : TypeId} (hid : m.get id = some (.cells cs T)) {arr arr' : Array Value} (hb : w.heap[(β id).1]? = some (.cells arr T (0, 0)))
  (hsz : arr'.size = arr.size) (hr : VRow β kn arr' 0 cs') {m1 : Mem} (hm1 : Tr.set fuel m id none = some m1) (hm : Tr.set fuel m1 n (some (.cells cs' T)) = some m') :
  Goes β kn m w (fun i => if i = n then β id else β i) (KN kn n (n + 1)) m' (w.setRow (β id).1 arr') := by
 have hg1 := Tr.get_set hm1
 have hg := Tr.get_set hm
 have hne : ∀ i, kn i → i ≠ n := fun i hi e => hn (e ▸ hi)
 have hidn : id ≠ n := hne id (h.blk id _ hid).1
 have hoth : ∀ b, b ≠ (β id).1 → (w.setRow (β id).1 arr').heap[b]? = w.heap[b]? := fun b hb => setRow_other w (β id).1 b arr' hb
 have hself : (w.setRow (β id).1 arr').heap[(β id).1]? = some (.cells arr' T (0, 0)) := setRow_heap w (β id).1 arr arr' T (0, 0) hb
 have hsize : arr.size = (β id).2 := by
  obtain ⟨_, arr2, g1, g2, _⟩ := h.blk id _ hid
  rw [hb] at g1; injection g1 with g1; injection g1 with g3 _ _; rw [g3]; exact g2
 have hext : Ext β kn (fun i => if i = n then β id else β i) (KN kn n (n + 1)) := fun i hk => ⟨.inl hk, by simp [hne i hk]⟩
 have hkey : ∀ i b, m'.get i = some b → i = n ∨ (m.get i = some b ∧ i ≠ id ∧ i ≠ n) := fun i b e => by
  rw [hg] at e
  by_cases hi : i = n
  ·exact .inl hi
  ·rw [if_neg hi, hg1] at e
   by_cases hj : i = id
   ·rw [if_pos hj] at e; cases e
   ·rw [if_neg hj] at e; exact .inr ⟨e, hj, hi⟩
 refine ⟨hext, ⟨rfl, rfl, rfl, by simp, fun b _ hno => hoth b (fun e => hno id _ hid e.symm), fun i c e => ?_⟩, ⟨fun i b e => ?_, fun i j b c e1 e2 e3 => ?_, fun q hq => ?_⟩⟩
 ·rcases hkey i c e with hi | ⟨e', _, hi⟩
  ·exact .inl ⟨id, _, hid, by simp [hi]⟩
  ·exact .inl ⟨i, c, e', by simp [hi]⟩
 ·rcases hkey i b e with hi | ⟨e', hj, hi⟩
  ·subst hi
   rw [hg, if_pos rfl] at e; injection e with e; subst e
   refine ⟨.inr (by omega), ?_⟩
   simp only [if_pos]
   exact ⟨arr', hself, by omega, hr.mono hext⟩
  ·obtain ⟨g1, g2⟩ := h.blk i b e'
   refine ⟨.inl g1, ?_⟩
   simp only [if_neg hi]
   rw [hoth _ (fun e2 => hj (h.inj i id _ _ e' hid e2))]
   exact g2.mono hext
 ·rcases hkey i b e1 with hi | ⟨e1', hi1, hi⟩ <;> rcases hkey j c e2 with hj | ⟨e2', hj1, hj⟩
  ·rw [hi, hj]
  ·simp only [hi, if_pos, if_neg hj] at e3; exact absurd (h.inj j id _ _ e2' hid e3.symm) hj1
  ·simp only [hj, if_pos, if_neg hi] at e3; exact absurd (h.inj i id _ _ e1' hid e3) hi1
  ·simp only [if_neg hi, if_neg hj] at e3; exact h.inj i j _ _ e1' e2' e3
 ·obtain ⟨q1, q2⟩ := h.gl q hq
  refine ⟨by rw [hoth _ (fun e => q2 id _ hid e.symm)]; exact q1, fun i c e => ?_⟩
  rcases hkey i c e with hi | ⟨e', _, hi⟩
  ·simp only [hi, if_pos]; exact q2 id _ hid
  ·simp only [if_neg hi]; exact q2 i c e'
end
end Go.Fm
namespace Go.Fm
theorem bif_none {α : Type} {b : Bool} {x : Option α} {y : α} (h : (bif b then x else none) = some y) : b = true ∧ x = some y := by
 cases b with
 | false => simp at h
 | true => exact ⟨rfl, h⟩
theorem bif_none' {α : Type} {b : Bool} {x : Option α} {y : α} (h : (bif b then none else x) = some y) : b = false ∧ x = some y := by
 cases b with
 | true => simp at h
 | false => exact ⟨rfl, h⟩
section
variable [Ctx] {P : Program} {β : Nat → Nat × Nat} {kn : Nat → Prop} {t : Tr 3 V} {a : Act} {N : Nat} {ds : List Deferred} {m m' : Mem} {w : World} {n n' : Nat} {v : V}
def MOk (P : Program) (β : Nat → Nat × Nat) (kn : Nat → Prop) (m : Mem) (w : World) (n : Nat) (v : V) (m' : Mem) (n' : Nat) (s : Sem Value) : Prop :=
 n ≤ n' ∧ ∃ x w' β', s.run P w = .ok x w' ∧ Goes β kn m w β' (KN kn n n') m' w' ∧ VR β' (KN kn n n') v x
theorem allOne_ok : ∀ {vs : List V}, allOne vs = true → ∀ {xs : Array Value} {off : Nat}, VRow β kn xs off vs → ∀ (i : Nat) (x : Value), i < vs.length → xs[off + i]? = some x → x.oneCell' = true := by
 intro vs h xs off hr i x hi hx
 have h1 : ∀ (vs : List V), allOne vs = true → ∀ v ∈ vs, v ≠ .u ∧ (∀ cs, v ≠ .agg cs) ∧ (∀ cs, v ≠ .tup cs) := by
  intro vs
  induction vs with
  | nil => simp
  | cons v r ih =>
   intro h u hu
   rcases List.mem_cons.1 hu with rfl | hu
   ·cases u <;> simp [allOne] at h <;> simp
   ·refine ih ?_ u hu
    cases v <;> simp [allOne] at h <;> exact h
 have hv : vs[i]? = some vs[i] := by simp [hi]
 obtain ⟨n1, n2, n3⟩ := h1 vs h _ (List.mem_of_getElem? hv)
 have := hr.2 i _ x hv hx
 generalize vs[i] = q at this n1 n2 n3
 cases this <;> first | rfl | exact absurd rfl n1 | exact absurd rfl (n2 _) | exact absurd rfl (n3 _)
theorem run_loadVar_agg {ty : TypeId} {n : Nat} (hg : aggT P ty = some true) (hn : szOf P ty = some n) {w : World} {b off : Nat} {arr : Array Value} {T : TypeId} {fr : Nat × Nat}
  (hb : w.heap[b]? = some (.cells arr T fr)) (hl : n ≤ arr.size - off) : (loadVar ty ⟨b, off, none⟩).run P w = .ok (.agg (arr.extract off (off + n))) w := by
 have hlen : ((arr.toList.drop off).take n).length = n := by simp; omega
 have hl' := run_loadCells_list (P := P) w ⟨b, off, none⟩ ((arr.toList.drop off).take n) (fun j v hv => by
  rw [addr_add]
  simp only [World.cell?, hb]
  have hj : j < n := by
   have := (gEs hv).1
   rw [hlen] at this; exact this
  rw [List.getElem?_take_of_lt hj, List.getElem?_drop] at hv
  simpa using hv)
 rw [hlen] at hl'
 have e : ((arr.toList.drop off).take n).toArray = arr.extract off (off + n) := by
  apply Array.ext'
  simp [List.take_drop]
 rw [e] at hl'
 simp [loadVar, run_agg hg, run_size hn, hl']
theorem run_loadVar_one {ty : TypeId} (hg : aggT P ty = some false) {w : World} {b off : Nat} {arr : Array Value} {T : TypeId} {fr : Nat × Nat} {v : Value}
  (hb : w.heap[b]? = some (.cells arr T fr)) (hv : arr[off]? = some v) : (loadVar ty ⟨b, off, none⟩).run P w = .ok v w := by
 have hc : w.cell? ⟨b, off, none⟩ = some v := by simp [World.cell?, hb, hv]
 simp [loadVar, run_agg hg, hc, Result.andThen]
theorem rd_ok (hm : MS β kn m w) {id : Nat} {cs : List V} (h : rd (m.get id) = some cs) : ∃ arr T fr, w.heap[(β id).1]? = some (.cells arr T fr) ∧ VRow β kn arr 0 cs := by
 cases hb : m.get id with
 | none => rw [hb] at h; cases h
 | some b =>
  rw [hb] at h
  have := hm.blk id b hb
  cases b with
  | cells cs' T => injection h with h; subst h; obtain ⟨_, arr, h1, _, h2⟩ := this; exact ⟨arr, T, _, h1, h2⟩
  | ro cs' => injection h with h; subst h; obtain ⟨_, arr, T, fr, h1, h2⟩ := this; exact ⟨arr, T, fr, h1, h2⟩
  | fix cs' o => injection h with h; subst h; obtain ⟨_, arr, T, fr, e, h1, h2⟩ := this; exact ⟨arr, T, fr, by rw [h1, e], h2⟩
  | _ => cases h
theorem loadAt_ok (hm : MS β kn m w) {ty : TypeId} {sz id off : Nat} {g : Bool} {cs : List V} (hg : aggT P ty = some g) (hn : szOf P ty = some sz) (hid : rd (m.get id) = some cs) (hle : off + sz ≤ cs.length)
  (hv : mkV g sz (cut off sz cs) = some v) : ∃ x, (loadVar ty ⟨(β id).1, off, none⟩).run P w = .ok x w ∧ VR β kn v x := by
 obtain ⟨arr, T, fr, hb, hr⟩ := rd_ok hm hid
 have hr' := hr.cut off sz (by omega)
 rw [Nat.zero_add] at hr'
 have h1 := hr.1
 rcases row_value hr' hv with ⟨rfl, h2⟩ | ⟨rfl, x, h2, h3⟩
 ·exact ⟨_, run_loadVar_agg hg hn hb (by omega), h2⟩
 ·exact ⟨x, run_loadVar_one hg hb h2, h3⟩
theorem load_ok (ht : TR β kn t a N ds) (hm : MS β kn m w) {ty : TypeId} {sz : Nat} {g : Bool} {x : Operand} (hg : aggT P ty = some g) (hn : szOf P ty = some sz) (he : evM (.load sz g (resX x)) t m n = some (v, m', n')) :
  m' = m ∧ n' = n ∧ ∃ y, (Instr.loadAt ty (a.eval x)).run P w = .ok y w ∧ VR β kn v y := by
 have hx := val_ok ht x
 simp only [evM] at he
 split at he
 ·rename_i id off hv
  rw [hv] at hx
  split at he
  ·rename_i cs hid
   obtain ⟨hle, he⟩ := bif_none he
   have hle := nLb hle
   simp only [oMs, pMi] at he
   obtain ⟨v', hv', rfl, rfl, rfl⟩ := he
   generalize a.eval x = q at hx
   cases hx with
   | ptr id off hk =>
    obtain ⟨y, h1, h2⟩ := loadAt_ok hm hg hn hid hle hv'
    exact ⟨rfl, rfl, y, by simp [Instr.loadAt, Instr.sureAddr, h1], h2⟩
  ·simp at he
 ·simp at he
theorem slArr_ok (ht : TR β kn t a N ds) (hm : MS β kn m w) {ty e : TypeId} {len sz : Nat} {x : Operand} {lo hi : Option Operand} (hu : P.underlying ty = some (.array len e)) (hs : szOf P e = some sz)
  (he : evM (.slArr len sz (resX x) (lo.map resX) (hi.map resX)) t m n = some (v, m', n')) :
  m' = m ∧ n' = n ∧ ∃ y, (Instr.sliceAt ty (a.eval x) (lo.map a.eval) (hi.map a.eval) none).run P w = .ok y w ∧ VR β kn v y := by
 have hx := val_ok ht x
 simp only [evM] at he
 split at he
 ·rename_i id off hv
  rw [hv] at hx
  split at he
  ·rename_i cs T hid
   obtain ⟨hle, he⟩ := bif_none he
   have hle := nLb hle
   simp only [oBs] at he
   obtain ⟨u, hh, l, hl, he⟩ := he
   obtain ⟨hc, he⟩ := bif_none he
   simp only [oSi, pMi] at he
   obtain ⟨rfl, rfl, rfl⟩ := he
   simp only [Bool.and_eq_true] at hc
   obtain ⟨⟨c1, c2⟩, c3⟩ := hc
   have c1 := leI_iff c1; have c2 := leI_iff c2; have c3 := leI_iff c3
   generalize a.eval x = q at hx
   cases hx with
   | ptr id off hk =>
    obtain ⟨_, arr, hb, hsz, hr⟩ := hm.blk id _ hid
    have hr1 := hr.1
    have hbd := run_bounds (P := P) ht hl hh c1 c2 c3 false w
    refine ⟨rfl, rfl, .slice (some ⟨(β id).1, if len = l.toNat then off else off + l.toNat * sz, none⟩) (u.toNat - l.toNat) (len - l.toNat), ?_, ?_⟩
    ·simp only [Instr.sliceAt, Sem.run_bind, run_underlying hu, Result.andThen_ok, Instr.sureAddr, Sem.run_pure, hbd, run_size hs]
     by_cases hml : len = l.toNat
     ·simp [hml]
     ·simp [hml, addr_add]
    ·have e1 := room_cut (off := off) (cap := len) (size := sz) (l := l.toNat) (by omega)
     refine .sl id _ _ _ _ _ _ hk (by omega) ?_ (by simp) ?_
     ·by_cases hml : len = l.toNat
      ·rw [if_pos hml, hml]; simp; omega
      ·rw [if_neg hml]; omega
     ·by_cases hml : len = l.toNat
      ·right; omega
      ·left; rw [if_neg hml]
  ·simp at he
 ·simp at he
theorem newB_ok (hm : MS β kn m w) (hn : n < n' → ¬ kn n) {cs : List V} {T : TypeId} {k : V} (he : newB m n cs T k = some (v, m', n')) {arr : Array Value} (hr : VRow β kn arr 0 cs) {w1 : World} (hw : Calm w w1) :
  n' = n + 1 ∧ v = k ∧ Goes β kn m w (fun i => if i = n then (w.heap.size, arr.size) else β i) (KN kn n (n + 1)) m' (w1.alloc (.cells arr T)) := by
 simp only [newB, oMs, pMi] at he
 obtain ⟨m2, h1, rfl, rfl, rfl⟩ := he
 exact ⟨rfl, rfl, Goes.alloc hm (hn (by omega)) hr h1 hw⟩
theorem kn_new (kn : Nat → Prop) (n : Nat) : KN kn n (n + 1) n := .inr (by omega)
theorem alloc_ok (hm : MS β kn m w) (hn : n < n' → ¬ kn n) {ty : TypeId} {z : List V} (hz : zeroVs P ty = some z) (he : evM (.alloc z ty) t m n = some (v, m', n')) :
  MOk P β kn m w n v m' n' (Instr.alloc ty true (.tuple #[])) := by
 obtain ⟨zv, h1, h2, h3⟩ := run_zero hz
 simp only [evM] at he
 obtain ⟨rfl, rfl, hg⟩ := newB_ok hm hn he (h3 β kn) (w1 := w) ⟨rfl, rfl, rfl, rfl⟩
 refine ⟨by omega, .pointer (some ⟨w.heap.size, 0, none⟩), _, _, ?_, hg, ?_⟩
 ·simp [Instr.alloc, h1, newVar, newRow]
 ·have := VR.ptr (β := fun i => if i = n then (w.heap.size, zv.cells.size) else β i) (kn := KN kn n (n + 1)) n 0 (kn_new kn n)
  simpa using this
theorem box_ok (ht : TR β kn t a N ds) (hm : MS β kn m w) (hn : n < n' → ¬ kn n) {ty : TypeId} {x : Operand} (he : evM (.box (resX x) ty) t m n = some (v, m', n')) : MOk P β kn m w n v m' n' (Instr.box ty (a.eval x)) := by
 simp only [evM, oBs] at he
 obtain ⟨cs, hc, he⟩ := he
 obtain ⟨_, c2⟩ := cellsV_ok hc (val_ok ht x)
 obtain ⟨rfl, rfl, hg⟩ := newB_ok hm hn he c2 (w1 := w) ⟨rfl, rfl, rfl, rfl⟩
 refine ⟨by omega, .pointer (some ⟨w.heap.size, 0, none⟩), _, _, ?_, hg, ?_⟩
 ·simp [Instr.box, newVar, newRow]
 ·have := VR.ptr (β := fun i => if i = n then (w.heap.size, (a.eval x).cells.size) else β i) (kn := KN kn n (n + 1)) n 0 (kn_new kn n)
  simpa using this
theorem replV_length (z : List V) : ∀ n, (replV z n).length = n * z.length
 | 0 => by simp [replV]
 | n + 1 => by simp only [replV, List.length_append, replV_length z n]; rw [Nat.succ_mul]; omega
theorem replV_get (z : List V) : ∀ (n i : Nat), i < n * z.length → (replV z n)[i]? = z[i % z.length]?
 | 0, i, h => by simp at h
 | n + 1, i, h => by
  simp only [replV]
  rcases Nat.lt_or_ge i z.length with hi | hi
  ·rw [List.getElem?_append_left hi, Nat.mod_eq_of_lt hi]
  ·rw [List.getElem?_append_right hi, replV_get z n _ (by rw [Nat.succ_mul] at h; omega), Nat.mod_eq_sub_mod hi]
theorem madeCells_get (z : Array Value) (n k : Nat) (c : Value) (h : (madeCells z n)[k]? = some c) (hz : 0 < z.size) : z[k % z.size]? = some c := by
 simp only [madeCells, Array.getElem?_map, oMs] at h
 obtain ⟨i, hi, h⟩ := h
 have hik : i = k := by
  rcases Nat.lt_or_ge k n with hk | hk
  ·simp [hk] at hi; exact hi.symm
  ·simp [Array.getElem?_eq_none (xs := Array.range n) (i := k) (by simpa using hk)] at hi
 subst hik
 have hlt : i % z.size < z.size := Nat.mod_lt _ hz
 rw [getElem!_pos z _ hlt] at h
 simp [hlt, h]
theorem made_row {zs : Array Value} {z : List V} (h2 : zs.size = z.length) (h3 : VRow β kn zs 0 z) (k : Nat) : VRow β kn (madeCells zs (k * z.length)) 0 (replV z k) := by
 refine ⟨by simp [replV_length, size_madeCells], fun i u x e1 e2 => ?_⟩
 have hi : i < k * z.length := by rw [← replV_length]; exact (gEs e1).1
 have hpos : 0 < z.length := by
  rcases Nat.eq_zero_or_pos z.length with q | q
  ·rw [q] at hi; simp at hi
  ·exact q
 rw [replV_get z k i hi] at e1
 rw [Nat.zero_add] at e2
 have e3 := madeCells_get zs _ i x e2 (by omega)
 rw [h2] at e3
 exact h3.2 _ u x e1 (by simpa using e3)
theorem elemT_ok {ty e : TypeId} (h : elemT P ty = some e) : P.underlying ty = some (.slice e) := by
 simp only [elemT, oBs] at h
 obtain ⟨d, hd, h⟩ := h
 cases d <;> simp at h
 subst h; exact hd
theorem buildSl_ok (ht : TR β kn t a N ds) (hm : MS β kn m w) (hn : n < n' → ¬ kn n) {ty e : TypeId} {len sz : Nat} {z : List V} {ps : Array (Nat × Operand)} {l : List (Nat × Nat × X)} (he1 : elemT P ty = some e) (hs : szOf P e = some sz)
  (hz : zeroVs P e = some z) (hp : resParts (fun i => some (i * sz, sz)) ps.toList = some l) (he : evM (.buildSl z len sz l e) t m n = some (v, m', n')) :
  MOk P β kn m w n v m' n' (Instr.buildSlice ty len (ps.map fun (i, x) => (i, a.eval x))) := by
 have hu := elemT_ok he1
 obtain ⟨zv, g1, g2, g3⟩ := run_zero hz
 simp only [evM] at he
 obtain ⟨hc, he⟩ := bif_none he
 simp only [Bool.and_eq_true, beq_iff_eq] at hc
 have h1 := nLb hc.1
 have h2 := hc.2
 simp only [oBs] at he
 obtain ⟨cs, hf, he⟩ := he
 let zc : Array Value := if len * sz = 0 then #[] else zv.cells
 have hrow : VRow β kn (madeCells zc (len * sz)) 0 (replV z len) := by
  by_cases hq : len * sz = 0
  ·refine ⟨by rw [replV_length, h2]; simp [size_madeCells], fun i u x e1 e2 => ?_⟩
   have : i < len * z.length := by rw [← replV_length]; exact (gEs e1).1
   rw [h2] at this; omega
  ·have hzc : zc = zv.cells := by simp [zc, hq]
   rw [hzc, ← h2]
   exact made_row g2 (g3 β kn) len
 obtain ⟨cs', f1, f2, f3, f4⟩ := fillX_ok ht hp hf hrow
 have e1 : (ps.map fun (i, x) => (i, a.eval x)).toList = ps.toList.map fun (i, x) => (i, a.eval x) := by simp
 obtain ⟨rfl, rfl, hg⟩ := newB_ok hm hn he f2 (w1 := w) ⟨rfl, rfl, rfl, rfl⟩
 refine ⟨by omega, .slice (some ⟨w.heap.size, 0, none⟩) len len, _, _, ?_, hg, ?_⟩
 ·have hmc : (Array.range (len * sz)).map (zc[· % zc.size]!) = madeCells zc (len * sz) := rfl
  unfold Instr.buildSlice
  rw [Sem.run_bind, run_underlying hu, Result.andThen_ok]
  rw [Sem.run_bind, run_size hs, Result.andThen_ok]
  rw [if_neg (by omega)]
  by_cases hq : len * sz = 0
  ·have hz' : zc = #[] := by simp [zc, hq]
   rw [hz'] at hmc f1
   rw [if_pos hq, Sem.run_bind, Sem.run_pure, Result.andThen_ok]; dsimp only; rw [hmc, e1, f1]
   simp [newRow]
  ·have hz' : zc = zv.cells := by simp [zc, hq]
   rw [hz'] at hmc f1
   rw [if_neg hq, Sem.run_bind, g1, Result.andThen_ok, Sem.run_bind, Sem.run_pure, Result.andThen_ok]; dsimp only; rw [hmc, e1, f1]
   simp [newRow]
 ·have := VR.sl (β := fun i => if i = n then (w.heap.size, cs'.size) else β i) (kn := KN kn n (n + 1)) n 0 len (some len) sz len 0 (kn_new kn n) (Nat.le_refl _) (by simp [f3, size_madeCells]) (by simp) (.inl rfl)
  simpa using this
theorem makeSl_ok (ht : TR β kn t a N ds) (hm : MS β kn m w) (hn : n < n' → ¬ kn n) {ty e : TypeId} {sz by_ : Nat} {z : List V} {xl xc : Operand} (he1 : elemT P ty = some e) (hs : szOf P e = some sz) (hz : zeroVs P e = some z) (hb : bytesT P e = some by_)
  (he : evM (.makeSl z sz by_ (resX xl) (resX xc) e) t m n = some (v, m', n')) : MOk P β kn m w n v m' n' (Instr.makeSlice ty (a.eval xl) (a.eval xc)) := by
 have hu := elemT_ok he1
 simp only [evM, oBs] at he
 obtain ⟨l, hl, c, hc, he⟩ := he
 obtain ⟨hq, he⟩ := bif_none he
 simp only [Bool.and_eq_true, beq_iff_eq] at hq
 obtain ⟨⟨⟨q1, q2⟩, q3⟩, q4⟩ := hq
 have q1 := leI_iff q1; have q2 := leI_iff q2
 simp only [roomOk, Bool.and_eq_true] at q3
 have r1 := nLb q3.1; have r2 := nLb q3.2
 obtain ⟨kl, hl'⟩ := asInt_ok hl (val_ok ht xl)
 obtain ⟨kc, hc'⟩ := asInt_ok hc (val_ok ht xc)
 have hz0 := hz
 simp only [zeroVs, oBs, oMs] at hz0
 obtain ⟨i, hi, zv, hzv, hzz⟩ := hz0
 have g2 : zv.cells.size = z.length := by rw [← hzz]; simp
 have g3 : VRow β kn zv.cells 0 z := by
  obtain ⟨zv', k1, k2, k3⟩ := run_zero hz
  have hw := k1 w
  have : (zeroValue e).run P w = .ok zv w := by simp [zeroValue, typeInfo, hi, hzv]
  rw [hw] at this; injection this with this; subst this; exact k3 β kn
 have hsz' : i.size = sz := by simpa [szOf, hi] using hs
 have hby : i.bytes = by_ := by simpa [bytesT, hi] using hb
 have hrun := run_make (P := P) w ty e i zv hu hi hzv kl kc l c q1 q2 (by
  have : (i.bytes : Int) * c = ((c.toNat * by_ : Nat) : Int) := by
   rw [hby, Int.natCast_mul, Int.toNat_of_nonneg (by omega), Int.mul_comm]
  rw [this]; omega) (by omega)
 rw [hsz', ← q4] at hrun
 obtain ⟨rfl, rfl, hg⟩ := newB_ok hm hn he (made_row g2 g3 c.toNat) (w1 := w) ⟨rfl, rfl, rfl, rfl⟩
 refine ⟨by omega, .slice (some ⟨w.heap.size, 0, none⟩) l.toNat c.toNat, _, _, by rw [hl', hc']; exact hrun, hg, ?_⟩
 have := VR.sl (β := fun i => if i = n then (w.heap.size, (madeCells zv.cells (c.toNat * z.length)).size) else β i) (kn := KN kn n (n + 1)) n 0 l.toNat (some c.toNat) sz c.toNat 0 (kn_new kn n) (by omega) (by simp [size_madeCells, q4]) (by simp) (.inl rfl)
 simpa using this
theorem store_row (hm : MS β kn m w) {id off : Nat} {cs vs : List V} {T : TypeId} (hid : m.get id = some (.cells cs T)) {xs : Array Value} (hx : VRow β kn xs 0 vs) (hxs : xs.size = vs.length) (hle : off + vs.length ≤ cs.length) (h1 : allOne vs = true)
  (hset : Tr.set fuel m id (some (.cells (cs.take off ++ vs ++ cs.drop (off + vs.length)) T)) = some m') (n : Nat) :
  ∃ w', (storeCells ⟨(β id).1, off, none⟩ xs.toList).run P w = .ok () w' ∧ Goes β kn m w β (KN kn n n) m' w' := by
 obtain ⟨_, arr, hb, hsz, hr⟩ := hm.blk id _ hid
 have hr1 := hr.1
 have hone : ∀ c ∈ xs.toList, c.oneCell' = true := by
  intro c hc
  obtain ⟨i, hi⟩ := List.getElem?_of_mem hc
  have hlt : i < vs.length := by have := (gEs hi).1; simpa [hxs] using this
  exact allOne_ok h1 hx i c hlt (by simpa using hi)
 have hrun := run_storeCells_at P (β id).1 off T xs.toList 0 arr w hb (by simp; omega) hone
 simp only [Nat.add_zero] at hrun
 obtain ⟨s1, s2⟩ := hr.seg (cs' := (arr.toList.take off ++ xs.toList ++ arr.toList.drop (off + xs.toList.length)).toArray) hx hxs hle (by simp)
 exact ⟨_, hrun, Goes.write hm hid hb s2 s1 hset⟩
theorem store_ok (ht : TR β kn t a N ds) (hm : MS β kn m w) {ty : TypeId} {sz : Nat} {x y : Operand} (hn : szOf P ty = some sz) (he : evM (.store sz (resX x) (resX y)) t m n = some (v, m', n')) :
  n' = n ∧ v = .tup [] ∧ ∃ w', (Instr.storeAt ty (a.eval x) (a.eval y)).run P w = .ok () w' ∧ Goes β kn m w β (KN kn n n) m' w' := by
 have hx := val_ok ht x
 simp only [evM] at he
 split at he
 ·rename_i id off hv
  rw [hv] at hx
  split at he
  ·rename_i cs T hid
   simp only [oBs] at he
   obtain ⟨vs, hvs, he⟩ := he
   obtain ⟨hc, he⟩ := bif_none he
   simp only [Bool.and_eq_true, beq_iff_eq] at hc
   obtain ⟨⟨rfl, h2⟩, h3⟩ := hc
   have h2 := nLb h2
   simp only [oMs, pMi] at he
   obtain ⟨m2, hset, rfl, rfl, rfl⟩ := he
   obtain ⟨c1, c2⟩ := cellsV_ok hvs (val_ok ht y)
   generalize a.eval x = q at hx
   cases hx with
   | ptr id off hk =>
    obtain ⟨w', g1, g2⟩ := store_row (P := P) hm hid c2 c1 h2 h3 hset n
    refine ⟨rfl, rfl, w', ?_, g2⟩
    simp [Instr.storeAt, Instr.sureAddr, storeVar, run_size hn, c1, g1]
  ·simp at he
 ·simp at he
end
end Go.Fm
namespace Go.Fm
section
variable [Ctx] {P : Program} {β : Nat → Nat × Nat} {kn : Nat → Prop} {t : Tr 3 V} {a : Act} {N : Nat} {ds : List Deferred} {m m' : Mem} {w : World} {n n' : Nat} {v : V}
theorem cut_length {o k : Nat} {cs : List V} (h : o + k ≤ cs.length) : (cut o k cs).length = k := by simp [cut]; omega
theorem VRow.own {xs : Array Value} {off : Nat} {vs : List V} (h : VRow β kn xs off vs) : VRow β kn ((xs.toList.drop off).take vs.length).toArray 0 vs ∧ ((xs.toList.drop off).take vs.length).length = vs.length := by
 have h1 := h.1
 have hl : ((xs.toList.drop off).take vs.length).length = vs.length := by simp; omega
 refine ⟨⟨by simp; omega, fun i u x e1 e2 => ?_⟩, hl⟩
 have hi : i < vs.length := (gEs e1).1
 rw [Nat.zero_add, List.getElem?_toArray, List.getElem?_take_of_lt hi, List.getElem?_drop] at e2
 exact h.2 i u x e1 (by simpa using e2)
theorem VRow.take {vs : List V} {l : List Value} (h : VRow β kn l.toArray 0 vs) (k : Nat) (hk : k ≤ vs.length) : VRow β kn (l.take k).toArray 0 (vs.take k) := by
 have h1 := h.1
 refine ⟨by simp at h1 ⊢; omega, fun i u x e1 e2 => ?_⟩
 have hi : i < k := by have := (gEs e1).1; simp at this; omega
 rw [List.getElem?_take_of_lt hi] at e1
 rw [Nat.zero_add, List.getElem?_toArray, List.getElem?_take_of_lt hi] at e2
 exact h.2 i u x e1 (by simpa using e2)
theorem VRow.append {l1 l2 : List Value} {v1 v2 : List V} (h1 : VRow β kn l1.toArray 0 v1) (e1 : l1.length = v1.length) (h2 : VRow β kn l2.toArray 0 v2) {r : List Value} : VRow β kn (l1 ++ l2 ++ r).toArray 0 (v1 ++ v2) := by
 have a1 := h1.1; have a2 := h2.1
 refine ⟨by simp at a1 a2 ⊢; omega, fun i u x e3 e4 => ?_⟩
 rw [Nat.zero_add, List.getElem?_toArray, List.append_assoc] at e4
 rcases Nat.lt_or_ge i v1.length with hi | hi
 ·rw [List.getElem?_append_left hi] at e3
  rw [List.getElem?_append_left (by omega)] at e4
  exact h1.2 i u x e3 (by simpa using e4)
 ·rw [List.getElem?_append_right hi] at e3
  have hlt := (gEs e3).1
  rw [List.getElem?_append_right (by omega), List.getElem?_append_left (by simp at a2; omega)] at e4
  exact h2.2 (i - v1.length) u x e3 (by rw [e1] at e4; simpa using e4)
theorem src_ok (hm : MS β kn m w) {sz k : Nat} {s : V} {x : Value} {cs : List V} (hs : VR β kn s x) (he : elsV m sz s = some (k, cs)) :
  ∃ (news : List Value), (∀ w' : World, (Builtin.lenOf x).run P w' = .ok k w') ∧ cs.length = k * sz ∧ news.length = cs.length ∧ VRow β kn news.toArray 0 cs ∧
   ∀ w' : World, w'.heap = w.heap → ∀ j, j ≤ k → (Builtin.firstCells sz j x).run P w' = .ok (news.take (j * sz)).toArray w' := by
 unfold elsV at he
 split at he
 ·simp only [oSi, pMi] at he
  obtain ⟨rfl, rfl⟩ := he
  cases hs
  exact ⟨[], fun w' => by simp [Builtin.lenOf], by simp, rfl, ⟨by simp, by simp⟩, fun w' _ j hj => by simp [Builtin.firstCells]⟩
 ·rename_i id off len cap sz'
  obtain ⟨hz, he⟩ := bif_none he
  simp at hz; subst hz
  cases hs with
  | sl id off len cap sz' c o hk g1 g2 g3 g4 =>
  cases h0 : (len == 0) with
  | true =>
   simp only [h0, cond_true, oSi, pMi] at he
   obtain ⟨rfl, rfl⟩ := he
   simp at h0; subst h0
   refine ⟨[], fun w' => by simp [Builtin.lenOf], by simp, rfl, ⟨by simp, by simp⟩, fun w' _ j hj => ?_⟩
   have : j = 0 := by omega
   subst this
   simp [Builtin.firstCells, loadCells, loadCellsFrom]
  | false =>
   simp only [h0, cond_false] at he
   simp at h0
   split at he
   ·rename_i cs' hid
    obtain ⟨hle, he⟩ := bif_none he
    have hle := nLb hle
    simp only [oSi, pMi] at he
    obtain ⟨rfl, rfl⟩ := he
    have ho : o = off := by omega
    subst ho
    obtain ⟨arr, T, fr, hb, hr⟩ := rd_ok hm hid
    have hlen := cut_length hle
    have hrow := hr.cut o (len * sz') (by omega)
    rw [Nat.zero_add] at hrow
    obtain ⟨q1, q2⟩ := hrow.own
    rw [hlen] at q1 q2
    refine ⟨_, fun w' => by simp [Builtin.lenOf], hlen, by rw [q2, hlen], q1, fun w' hw' j hj => ?_⟩
    have hjl : j * sz' ≤ len * sz' := Nat.mul_le_mul_right _ hj
    refine run_firstCells_some (P := P) w' sz' j ⟨(β id).1, o, none⟩ len c _ (by simp at q2 ⊢; omega) (fun i u hu => ?_)
    rw [addr_add]
    simp only [World.cell?, hw', hb]
    have hi : i < j * sz' := by have := (gEs hu).1; simp at this; omega
    rw [List.getElem?_take_of_lt hi, List.getElem?_take_of_lt (by omega), List.getElem?_drop] at hu
    simpa using hu
   ·simp at he
 ·rename_i s
  obtain ⟨hz, he⟩ := bif_none he
  have hz : sz = 1 := by simpa using hz
  subst hz
  have he : s.size = k ∧ bytesL s = cs := by simpa using he
  obtain ⟨rfl, rfl⟩ := he
  cases hs
  refine ⟨s.data.toList.map fun b => .int .u8 b.toNat, fun w' => by simp [Builtin.lenOf], by rw [Nat.mul_one]; simp only [bytesL, List.length_map, Array.length_toList]; rfl, by simp [bytesL], ⟨by simp [bytesL], fun i u x e1 e2 => ?_⟩, fun w' _ j hj => ?_⟩
  ·simp only [bytesL, List.getElem?_map, oMs] at e1
   obtain ⟨b, hb, rfl⟩ := e1
   simp only [Nat.zero_add, List.getElem?_toArray, List.getElem?_map, oMs] at e2
   obtain ⟨b', hb', rfl⟩ := e2
   rw [hb] at hb'; injection hb' with hb'; subst hb'
   exact .int _ _
  ·simp only [Builtin.firstCells, Sem.run_pure, Nat.mul_one]
   congr 1
   apply Array.ext'
   simp [List.map_take]
 ·simp at he
structure AppRun (P : Program) (w : World) (ts : Array TypeId) (tt : TypeId) (e : TypeId) (x : Value) (k : Nat) (news : List Value) : Prop where
 room : ∀ (base : Option Addr) (len cap sz : Nat), szOf P e = some sz → len + k ≤ cap → (Builtin.append_ ts tt #[.slice base len cap, x]).run P w =
  (do
   if let some a := base then storeCells (a.add (len * sz)) news
   pure (.slice base (len + k) cap) : Sem Value).run P w
 grow : ∀ {i : TypeInfo} {z : Value} {len cap : Nat} {base : Option Addr} {olds : List Value}, P.info? e = some i → i.zero = some z → (Builtin.firstCells i.size len (.slice base len cap)).run P w.drew = .ok olds.toArray w.drew → cap < len + k →
  ((len + k : Nat) : Int) ≤ 9223372036854775807 → Builtin.nextslicecap (len + k) cap * i.bytes ≤ 281474976710656 →
  (Builtin.append_ ts tt #[.slice base len cap, x]).run P w =
   .ok (.slice (some ⟨w.heap.size, 0, none⟩) (len + k) (grownCap w (len + k) cap e))
    (w.drew.alloc (.cells (olds ++ news ++ (Builtin.zeroCells z.cells (grownCap w (len + k) cap e - (len + k))).toList).toArray e))
theorem appRun_text {ty ty' e tt : TypeId} (hu : P.underlying ty = some (.slice e)) (hu' : textT P ty' = true) {x : Value} {k sz : Nat} {news : List Value} (hs : szOf P e = some sz) (hl : ∀ w' : World, (Builtin.lenOf x).run P w' = .ok k w')
  (hf : ∀ w' : World, w'.heap = w.heap → (Builtin.firstCells sz k x).run P w' = .ok news.toArray w') : AppRun P w #[ty, ty'] tt e x k news := by
 unfold textT at hu'
 split at hu'
 ·rename_i e' hu2
  clear hu'
  have hu' := hu2
  refine ⟨fun base len cap sz' hs' hroom => ?_, fun {i z len cap base olds} hi hz ho hg h63 hfit => ?_⟩
  ·rw [hs] at hs'; injection hs' with hs'; subst hs'
   simp [Builtin.append_, run_underlying hu, run_underlying hu', run_size hs, hl, hroom, hf w rfl]
   cases base <;> rfl
  ·have hsz : i.size = sz := by simpa [szOf, hi] using hs
   rw [hsz] at ho
   have hn : ¬ (len + k ≤ cap) := by omega
   have h63' : ¬ (9223372036854775807 < ((len : Int) + (k : Int))) := by omega
   have h48' : ¬ (281474976710656 < Builtin.nextslicecap (len + k) cap * i.bytes) := by omega
   simp [Builtin.append_, run_underlying hu, run_underlying hu', sizeOf, typeInfo, zeroValue, hi, hz, hl, hn, h63', h48', Question.forced, hsz, hf w.drew rfl, ho, newRow, grownCap]
   congr 2
   apply Array.ext'
   simp
 ·rename_i hu2
  clear hu'
  have hu' := hu2
  refine ⟨fun base len cap sz' hs' hroom => ?_, fun {i z len cap base olds} hi hz ho hg h63 hfit => ?_⟩
  ·rw [hs] at hs'; injection hs' with hs'; subst hs'
   simp [Builtin.append_, run_underlying hu, run_underlying hu', run_size hs, hl, hroom, hf w rfl]
   cases base <;> rfl
  ·have hsz : i.size = sz := by simpa [szOf, hi] using hs
   rw [hsz] at ho
   have hn : ¬ (len + k ≤ cap) := by omega
   have h63' : ¬ (9223372036854775807 < ((len : Int) + (k : Int))) := by omega
   have h48' : ¬ (281474976710656 < Builtin.nextslicecap (len + k) cap * i.bytes) := by omega
   simp [Builtin.append_, run_underlying hu, run_underlying hu', sizeOf, typeInfo, zeroValue, hi, hz, hl, hn, h63', h48', Question.forced, hsz, hf w.drew rfl, ho, newRow, grownCap]
   congr 2
   apply Array.ext'
   simp
 ·simp at hu'
theorem appRun_zeros {ty ty' e tt : TypeId} {kd kx : IntKind} {i : TypeInfo} {z : Value} (hu : P.underlying ty = some (.slice e)) (hu' : P.underlying ty' = some (.int kd)) (hi : P.info? e = some i) (hz : i.zero = some z) (hzs : z.cells.size = i.size) {l : Int} (h0 : 0 ≤ l)
  (h1 : l.toNat ≤ 4294967296) (h2 : l.toNat * i.bytes ≤ 35184372088832) : AppRun P w #[ty, ty'] tt e (.int kx l) l.toNat (madeCells z.cells (l.toNat * i.size)).toList := by
 have hwrap : IntKind.i64.wrap l = l := by
  have h1' : l ≤ 4294967296 := by omega
  unfold IntKind.wrap
  simp [IntKind.signed, IntKind.bits]
  omega
 have hneg : ¬ l < 0 := by omega
 have hb : ¬ (l * (i.bytes : Int) > 281474976710656) := by
  have : l * (i.bytes : Int) = ((l.toNat * i.bytes : Nat) : Int) := by rw [Int.natCast_mul, Int.toNat_of_nonneg h0]
  rw [this]; omega
 have hb' : ¬ (281474976710656 < l * (i.bytes : Int)) := hb
 refine ⟨fun base len cap sz' hs' hroom => ?_, fun {i' z' len cap base olds} hi' hz' ho hg h63 hfit => ?_⟩
 ·have hsz : i.size = sz' := by simpa [szOf, hi] using hs'
  subst hsz
  by_cases hq : l.toNat * i.size = 0
  ·simp [Builtin.append_, run_underlying hu, run_underlying hu', sizeOf, typeInfo, zeroValue, hi, hz, Go.asInt, asIntOf, hwrap, hneg, hb', hroom, hq, madeCells]
   cases base <;> rfl
  ·simp [Builtin.append_, run_underlying hu, run_underlying hu', sizeOf, typeInfo, zeroValue, hi, hz, Go.asInt, asIntOf, hwrap, hneg, hb', hroom, hq, madeCells, Builtin.zeroCells, hzs]
   cases base <;> rfl
 ·rw [hi] at hi'; injection hi' with hi'; subst hi'
  rw [hz] at hz'; injection hz' with hz'; subst hz'
  have hn : ¬ (len + l.toNat ≤ cap) := by omega
  have h63' : ¬ (9223372036854775807 < ((len : Int) + (l.toNat : Int))) := by omega
  have h48' : ¬ (281474976710656 < Builtin.nextslicecap (len + l.toNat) cap * i.bytes) := by omega
  by_cases hq : l.toNat * i.size = 0
  ·simp [Builtin.append_, run_underlying hu, run_underlying hu', sizeOf, typeInfo, zeroValue, hi, hz, Go.asInt, asIntOf, hwrap, hneg, hb', hn, h63', h48', hq, madeCells, Question.forced, ho, newRow, grownCap]
   rw [if_neg (by omega)]
   congr 2
   simp
  ·simp [Builtin.append_, run_underlying hu, run_underlying hu', sizeOf, typeInfo, zeroValue, hi, hz, Go.asInt, asIntOf, hwrap, hneg, hb', hn, h63', h48', hq, madeCells, Question.forced, ho, newRow, grownCap, Builtin.zeroCells, hzs]
   rw [if_neg (by omega)]
   congr 2
   simp
theorem app_room_some {ts : Array TypeId} {tt e : TypeId} {x : Value} {k sz : Nat} {news : List Value} (ha : AppRun P w ts tt e x k news) (hs : szOf P e = some sz) {g o len cap : Nat} {arr : Array Value} {T : TypeId}
  (hg : w.heap[g]? = some (.cells arr T (0, 0))) (h1 : ∀ u ∈ news, u.oneCell' = true) (hroom : len + k ≤ cap) (hfit : o + len * sz + news.length ≤ arr.size) :
  (Builtin.append_ ts tt #[.slice (some ⟨g, o, none⟩) len cap, x]).run P w =
   .ok (.slice (some ⟨g, o, none⟩) (len + k) cap) (w.setRow g (arr.toList.take (o + len * sz) ++ news ++ arr.toList.drop (o + len * sz + news.length)).toArray) := by
 have hst := run_storeCells_at P g (o + len * sz) T news 0 arr w hg (by simpa using hfit) h1
 simp only [Nat.add_zero] at hst
 rw [ha.room _ _ _ _ hs hroom]
 simp [addr_add, hst]
theorem app_grow_ok (hm : MS β kn m w) (hn : n < n' → ¬ kn n) {ts : Array TypeId} {e tt : TypeId} {sz by_ : Nat} (hs : szOf P e = some sz) (hb : bytesT P e = some by_)
  {z : List V} (hz : zeroVs P e = some z) (hzl : z.length = sz) {base : Option Addr} {len cap : Nat} {olds : List Value} {os : List V} (ho : (Builtin.firstCells sz len (.slice base len cap)).run P w.drew = .ok olds.toArray w.drew)
  (hor : VRow β kn olds.toArray 0 os) (hol : olds.length = os.length) (hos : os.length = len * sz) {x : Value} {k : Nat} {news : List Value} {cs : List V}
  (ha : AppRun P w ts tt e x k news) (hnr : VRow β kn news.toArray 0 cs) (hnl : news.length = cs.length) (hcs : cs.length = k * sz) (hg : cap < len + k) (hroom : roomOk (len + k) by_ = true)
  (he : newB m n (os ++ cs) e (.sl n 0 (len + k) none sz) = some (v, m', n')) :
  MOk P β kn m w n v m' n' (Builtin.append_ ts tt #[.slice base len cap, x]) := by
 have hz0 := hz
 simp only [zeroVs, oBs, oMs] at hz0
 obtain ⟨i, hi, zv, hzv, hzz⟩ := hz0
 have hsz' : i.size = sz := by simpa [szOf, hi] using hs
 have hby : i.bytes = by_ := by simpa [bytesT, hi] using hb
 have hzs : zv.cells.size = sz := by rw [← hzl, ← hzz]; simp
 simp only [roomOk, Bool.and_eq_true] at hroom
 have r1 := nLb hroom.1; have r2 := nLb hroom.2
 have hfit : (len + k) * i.bytes ≤ 140737488355328 := by rw [hby]; exact Nat.le_trans r2 (by decide)
 have hrun := ha.grow hi hzv (by rw [hsz']; exact ho) hg (by omega) (growslice_fits hg hfit)
 have hcap := grownCap_ge w (len + k) cap e
 generalize grownCap w (len + k) cap e = gc at hrun hcap
 have hrow := hor.append hol hnr (r := (Builtin.zeroCells zv.cells (gc - (len + k))).toList)
 obtain ⟨rfl, rfl, hgo⟩ := newB_ok hm hn he hrow (w1 := w.drew) ⟨rfl, rfl, rfl, rfl⟩
 refine ⟨by omega, _, _, _, hrun, hgo, ?_⟩
 have hsize : (olds ++ news ++ (Builtin.zeroCells zv.cells (gc - (len + k))).toList).toArray.size = gc * sz := by
  have q3 : gc * sz = len * sz + k * sz + (gc - (len + k)) * sz := by
   rw [← Nat.add_mul, ← Nat.add_mul]; congr 1; omega
  simp [size_zeroCells, hzs, hol, hos, hnl, hcs]; omega
 have := VR.sl (β := fun i => if i = n then (w.heap.size, (olds ++ news ++ (Builtin.zeroCells zv.cells (gc - (len + k))).toList).toArray.size) else β i) (kn := KN kn n (n + 1)) n 0 (len + k) none sz gc 0 (kn_new kn n) hcap
  (by simp only [if_pos]; rw [hsize]; omega) (by simp) (.inl rfl)
 simpa using this
theorem MOk.of_drop {m1 : Mem} (h1 : Fr β m w β m1 w) {s : Sem Value} (h : MOk P β kn m1 w n v m' n' s) : MOk P β kn m w n v m' n' s := by
 obtain ⟨hle, x, w', β', g1, g2, g3⟩ := h
 exact ⟨hle, x, w', β', g1, ⟨g2.ext, h1.trans g2.fr, g2.ms⟩, g3⟩
theorem appendV_ok (hm : MS β kn m w) (hn : n < n' → ¬ kn n) {ts : Array TypeId} {e tt : TypeId} {sz by_ : Nat} {z : List V} (hs : szOf P e = some sz) (hz : zeroVs P e = some z) (hzl : z.length = sz)
  (hb : bytesT P e = some by_) {s : V} {so x : Value} (hsv : VR β kn s so) {k : Nat} {news : List Value} {cs : List V} (ha : AppRun P w ts tt e x k news) (hcl : cs.length = k * sz) (hnl : news.length = cs.length) (hnr : VRow β kn news.toArray 0 cs) (hone : allOne cs = true)
  (he : appendV m n sz by_ e s k cs = some (v, m', n')) : MOk P β kn m w n v m' n' (Builtin.append_ ts tt #[so, x]) := by
 have hno : ∀ u ∈ news, u.oneCell' = true := by
  intro u hu
  obtain ⟨i, hi⟩ := List.getElem?_of_mem hu
  have hlt : i < cs.length := by rw [← hnl]; exact (gEs hi).1
  exact allOne_ok hone hnr i u hlt (by simpa using hi)
 unfold appendV at he
 split at he
 ·
  cases hsv
  cases hk0 : (k == 0) with
  | true =>
   simp only [hk0, cond_true, oSi, pMi] at he
   obtain ⟨rfl, rfl, rfl⟩ := he
   simp at hk0; subst hk0
   have hnn : news = [] := List.eq_nil_of_length_eq_zero (by rw [hnl, hcl]; simp)
   refine ⟨Nat.le_refl _, .slice none 0 0, w, β, ?_, Goes.same hm n, .nils⟩
   rw [ha.room none 0 0 _ hs (Nat.le_refl _)]
   simp
  | false =>
   simp only [hk0, cond_false] at he
   obtain ⟨hroom, he⟩ := bif_none he
   simp at hk0
   have := app_grow_ok (tt := tt) (base := none) (len := 0) (cap := 0) (olds := []) (os := []) (v := v) (m' := m') (n' := n') hm hn hs hb hz hzl (by simp [Builtin.firstCells]) ⟨by simp, by simp⟩ rfl (by simp) ha hnr hnl hcl (by omega) (by simpa using hroom) (by simpa using he)
   exact this
 ·rename_i id off len cap sz'
  have hc := (bif_none he).1
  replace he := (bif_none he).2
  simp only [Bool.and_eq_true, beq_iff_eq] at hc
  obtain ⟨rfl, hroom⟩ := hc
  have grow : ∀ (o c0 : Nat) (old : List V) (m1 : Mem), MS β kn m1 w → VR β kn (.sl id off len cap sz') (.slice (some ⟨(β id).1, o, none⟩) len c0) → elsV m sz' (.sl id off len cap sz') = some (len, old) → c0 < len + k →
    newB m1 n (old ++ cs) e (.sl n 0 (len + k) none sz') = some (v, m', n') → MOk P β kn m1 w n v m' n' (Builtin.append_ ts tt #[.slice (some ⟨(β id).1, o, none⟩) len c0, x]) := by
   intro o c0 old m1 hm1 hvr hold hlt hnew
   obtain ⟨olds, _, hcl2, hnl2, hnr2, hf2⟩ := src_ok (P := P) hm hvr hold
   have hf2' := hf2 w.drew rfl len (Nat.le_refl _)
   rw [← hcl2, ← hnl2, List.take_length] at hf2'
   exact app_grow_ok hm1 hn hs hb hz hzl hf2' hnr2 hnl2 hcl2 ha hnr hnl hcl hlt hroom hnew
  have elen : ∀ {k' : Nat} {old : List V}, elsV m sz' (.sl id off len cap sz') = some (k', old) → k' = len := by
   intro k' old h
   simp only [elsV, beq_self_eq_true, cond_true] at h
   cases h0 : (len == 0) with
   | true => simp [h0] at h; simp at h0; omega
   | false =>
    simp only [h0, cond_false] at h
    split at h
    ·obtain ⟨_, h⟩ := bif_none h
     simp at h; exact h.1.symm
    ·simp at h
  cases hsv with
  | sl id off len cap sz' c0 o hk g1 g2 g3 g4 =>
  have hvr := VR.sl (β := β) (kn := kn) id off len cap sz' c0 o hk g1 g2 g3 g4
  cases cap with
  | some cp =>
   obtain rfl := g3 cp rfl
   simp only at he
   cases hcase : Nat.ble (len + k) c0 with
   | true =>
    simp only [hcase, cond_true] at he
    have hfit := nLb hcase
    split at he
    ·rename_i cs0 T hid
     obtain ⟨hle, he⟩ := bif_none he
     have hle := nLb hle
     simp only [oMs, pMi] at he
     obtain ⟨m2, hset, rfl, rfl, rfl⟩ := he
     obtain ⟨_, arr, hbk, hsz, hr⟩ := hm.blk id _ hid
     have hr1 := hr.1
     have hlm : (len + k) * sz' ≤ c0 * sz' := Nat.mul_le_mul_right _ hfit
     have hsplit : (len + k) * sz' = len * sz' + k * sz' := Nat.add_mul _ _ _
     by_cases hc00 : c0 = 0
     ·have hl0 : len = 0 := by omega
      have hk0 : k = 0 := by omega
      subst hl0; subst hk0
      have hcs0 : cs = [] := List.eq_nil_of_length_eq_zero (by rw [hcl]; simp)
      have hn0 : news = [] := List.eq_nil_of_length_eq_zero (by rw [hnl, hcs0]; rfl)
      subst hcs0 hn0
      have hrun := app_room_some (P := P) (cap := c0) (len := 0) (o := o) (arr := arr) ha hs hbk hno (by omega) (by simp; omega)
      refine ⟨Nat.le_refl _, _, _, β, hrun, ?_, ?_⟩
      ·have e0 : (arr.toList.take (o + 0 * sz') ++ [] ++ arr.toList.drop (o + 0 * sz' + ([] : List Value).length)).toArray = arr := by simp
       rw [e0]
       refine Goes.write hm hid hbk rfl ?_ hset
       have e1 : cs0.take (off + 0 * sz') ++ [] ++ cs0.drop (off + 0 * sz' + ([] : List V).length) = cs0 := by simp
       rw [e1]; exact hr
      ·rw [KN_same]; exact .sl id off _ _ _ _ _ hk (by omega) g2 (by simp) g4
     ·have ho : o = off := by omega
      subst ho
      have hrun := app_room_some (P := P) (cap := c0) (len := len) (o := o) (arr := arr) ha hs hbk hno hfit (by rw [hnl, hcl]; omega)
      obtain ⟨s1, s2⟩ := hr.seg (off := o + len * sz') (vs := news.toArray) (cs' := (arr.toList.take (o + len * sz') ++ news ++ arr.toList.drop (o + len * sz' + news.length)).toArray) hnr (by simpa using hnl) (by rw [hcl]; omega) (by simp)
      refine ⟨Nat.le_refl _, _, _, β, hrun, Goes.write hm hid hbk s2 s1 hset, ?_⟩
      rw [KN_same]; exact .sl id o _ _ _ _ _ hk hfit g2 (by simp) (.inl rfl)
    ·simp at he
   | false =>
    simp only [hcase, cond_false, oBs] at he
    obtain ⟨⟨k', old⟩, hold, he⟩ := he
    obtain rfl := elen hold
    have hlt : c0 < k' + k := by
     rcases Nat.lt_or_ge c0 (k' + k) with q | q
     ·exact q
     ·rw [Nat.ble_eq_true_of_le q] at hcase; cases hcase
    exact grow o c0 old m hm hvr hold hlt he
  | none =>
   simp only at he
   have hoff := (bif_none he).1
   replace he := (bif_none he).2
   simp only [beq_iff_eq] at hoff
   subst hoff
   simp only [oBs] at he
   obtain ⟨⟨k', old⟩, hold, he⟩ := he
   obtain rfl := elen hold
   obtain ⟨hl0, he⟩ := bif_none' he
   simp only [Bool.or_eq_false_iff, beq_eq_false_iff_ne, ne_eq, Bool.not_eq_false'] at hl0
   obtain ⟨hl0, hisT⟩ := hl0
   simp only [oBs] at he
   obtain ⟨m1, hm1, hnew⟩ := he
   obtain ⟨hms1, hfr1⟩ := Goes.drop hm hm1
   by_cases hfit : k' + k ≤ c0
   ·
    have ho : o = 0 := by omega
    subst ho
    have hold2 := hold
    simp only [elsV, beq_self_eq_true, cond_true] at hold2
    have hex : ∃ cs0, m.get id = some (.cells cs0 e) ∧ k' * sz' ≤ cs0.length ∧ cut 0 (k' * sz') cs0 = old := by
     unfold isT at hisT
     split at hisT
     ·rename_i cs0 T hid
      simp only [beq_iff_eq] at hisT; subst hisT
      refine ⟨cs0, hid, ?_⟩
      cases h0 : (k' == 0) with
      | true =>
       simp only [h0, cond_true, oSi, pMi] at hold2
       simp only [beq_iff_eq] at h0
       rw [h0, ← hold2.2]; simp [cut]
      | false =>
       simp only [h0, cond_false, hid, rd] at hold2
       have hle := nLb (bif_none hold2).1
       have hold3 := (bif_none hold2).2
       simp only [oSi, pMi, true_and, Nat.zero_add] at hold3 hle
       exact ⟨hle, hold3⟩
     ·cases hisT
    ·obtain ⟨cs0, hid, hle, hold2⟩ := hex
     obtain ⟨_, arr, hbk, hsz, hr⟩ := hm.blk id _ hid
     have hr1 := hr.1
     have hlm : (k' + k) * sz' ≤ c0 * sz' := Nat.mul_le_mul_right _ hfit
     have hsplit : (k' + k) * sz' = k' * sz' + k * sz' := Nat.add_mul _ _ _
     have hrun := app_room_some (P := P) (cap := c0) (len := k') (o := 0) (arr := arr) ha hs hbk hno hfit (by rw [hnl, hcl]; omega)
     simp only [newB, oMs, pMi] at hnew
     obtain ⟨m2, hset, rfl, rfl, rfl⟩ := hnew
     simp only [Nat.zero_add] at hrun
     have hrow : VRow β kn (arr.toList.take (k' * sz') ++ news ++ arr.toList.drop (k' * sz' + news.length)).toArray 0 (old ++ cs) := by
      have q1 := hr.cut 0 (k' * sz') (by omega)
      obtain ⟨q2, q3⟩ := q1.own
      rw [cut_length (by omega)] at q2 q3
      rw [hold2] at q2
      have := q2.append (r := arr.toList.drop (k' * sz' + news.length)) (by rw [q3, ← hold2, cut_length (by omega)]) hnr
      simpa using this
     have hgo := Goes.move hm (hn (by omega)) hid hbk (arr' := (arr.toList.take (k' * sz') ++ news ++ arr.toList.drop (k' * sz' + news.length)).toArray) (by simp; rw [hnl, hcl]; omega) hrow hm1 hset
     refine ⟨by omega, _, _, _, hrun, hgo, ?_⟩
     have := VR.sl (β := fun i => if i = n then β id else β i) (kn := KN kn n (n + 1)) n 0 (k' + k) none sz' c0 0 (kn_new kn n) hfit (by simpa using g2) (by simp) (.inl rfl)
     simpa using this
   ·exact MOk.of_drop hfr1 (grow o c0 old m1 hms1 hvr hold (by omega) hnew)
 ·simp at he
theorem append_ok (ht : TR β kn t a N ds) (hm : MS β kn m w) (hn : n < n' → ¬ kn n) {ty ty' e tt : TypeId} {sz by_ : Nat} {z : List V} {so xo : Operand} (he1 : elemT P ty = some e) (he2 : textT P ty' = true) (hs : szOf P e = some sz) (hz : zeroVs P e = some z)
  (hb : bytesT P e = some by_) (he : evM (.append z sz by_ (resX so) (resX xo) e) t m n = some (v, m', n')) : MOk P β kn m w n v m' n' (Builtin.append_ #[ty, ty'] tt #[a.eval so, a.eval xo]) := by
 have hu := elemT_ok he1
 simp only [evM] at he
 have hzl := (bif_none he).1
 replace he := (bif_none he).2
 simp at hzl
 simp only [oBs] at he
 obtain ⟨⟨k, cs⟩, hx, he⟩ := he
 have hone := (bif_none he).1
 replace he := (bif_none he).2
 obtain ⟨news, hl, hcl, hnl, hnr, hf⟩ := src_ok (P := P) hm (val_ok ht xo) hx
 refine appendV_ok hm hn hs hz hzl hb (val_ok ht so) (appRun_text hu he2 hs hl fun w' hw' => ?_) hcl hnl hnr hone he
 have := hf w' hw' k (Nat.le_refl _)
 rwa [← hcl, ← hnl, List.take_length] at this
theorem appZ_ok (ht : TR β kn t a N ds) (hm : MS β kn m w) (hn : n < n' → ¬ kn n) {ty ty' e tt : TypeId} {kd : IntKind} {sz by_ : Nat} {z : List V} {so xo : Operand} (he1 : elemT P ty = some e) (he2 : intT P ty' = some kd) (hs : szOf P e = some sz) (hz : zeroVs P e = some z)
  (hb : bytesT P e = some by_) (he : evM (.appZ z sz by_ (resX so) (resX xo) e) t m n = some (v, m', n')) : MOk P β kn m w n v m' n' (Builtin.append_ #[ty, ty'] tt #[a.eval so, a.eval xo]) := by
 have hu := elemT_ok he1
 have hu' : P.underlying ty' = some (.int kd) := by
  simp only [intT, oBs] at he2
  obtain ⟨d, hd, h⟩ := he2
  cases d <;> simp at h
  subst h; exact hd
 simp only [evM] at he
 have hzl := (bif_none he).1
 replace he := (bif_none he).2
 simp only [Bool.and_eq_true, beq_iff_eq] at hzl
 obtain ⟨hzl, hone⟩ := hzl
 simp only [oBs] at he
 obtain ⟨l, hl, he⟩ := he
 have hq := (bif_none he).1
 replace he := (bif_none he).2
 simp only [Bool.and_eq_true] at hq
 obtain ⟨q1, q3⟩ := hq
 have q1 := leI_iff q1
 simp only [roomOk, Bool.and_eq_true] at q3
 have r1 := nLb q3.1; have r2 := nLb q3.2
 obtain ⟨kx, hx⟩ := asInt_ok hl (val_ok ht xo)
 have hz0 := hz
 simp only [zeroVs, oBs, oMs] at hz0
 obtain ⟨i, hi, zv, hzv, hzz⟩ := hz0
 have hsz' : i.size = sz := by simpa [szOf, hi] using hs
 have hby : i.bytes = by_ := by simpa [bytesT, hi] using hb
 have g2 : zv.cells.size = z.length := by rw [← hzz]; simp
 have g3 : VRow β kn zv.cells 0 z := by
  obtain ⟨zv', k1, k2, k3⟩ := run_zero hz
  have hw := k1 w
  have : (zeroValue e).run P w = .ok zv w := by simp [zeroValue, typeInfo, hi, hzv]
  rw [hw] at this; injection this with this; subst this; exact k3 β kn
 have hra := appRun_zeros (w := w) (tt := tt) (kx := kx) hu hu' hi hzv (by rw [g2, hzl, hsz']) q1 r1 (by rw [hby]; exact r2)
 rw [← hx] at hra
 have hmr := made_row (β := β) (kn := kn) g2 g3 l.toNat
 rw [hsz', ← hzl] at hra
 refine appendV_ok hm hn hs hz hzl hb (val_ok ht so) hra (by rw [replV_length, hzl]) (by simp [replV_length, size_madeCells]) (by simpa using hmr) ?_ he
 have : ∀ (j : Nat), allOne (replV z j) = true := by
  have happ : ∀ (a b : List V), allOne a = true → allOne b = true → allOne (a ++ b) = true := by
   intro a b ha hb
   induction a with
   | nil => exact hb
   | cons y r ih => cases y <;> simp [allOne] at ha ⊢ <;> exact ih ha
  intro j
  induction j with
  | zero => simp [replV, allOne]
  | succ j ih => exact happ _ _ hone ih
 exact this _
end
end Go.Fm
namespace Go.Fm
section
variable [Ctx] {P : Program} {β : Nat → Nat × Nat} {kn : Nat → Prop} {t : Tr 3 V} {a : Act} {N : Nat} {ds : List Deferred} {m m' : Mem} {w : World} {n n' : Nat} {v : V}
theorem copy_ok (ht : TR β kn t a N ds) (hm : MS β kn m w) {ty ty' e tt : TypeId} {sz : Nat} {d s : Operand} (he1 : elemT P ty = some e) (hs : szOf P e = some sz)
  (he : evM (.copy sz (resX d) (resX s)) t m n = some (v, m', n')) : MOk P β kn m w n v m' n' (Builtin.copy_ #[ty, ty'] tt #[a.eval d, a.eval s]) := by
 have hu := elemT_ok he1
 have hdv := val_ok ht d
 have hsv := val_ok ht s
 simp only [evM] at he
 split at he
 ·rename_i hv
  rw [hv] at hdv
  simp only [oMs, pMi] at he
  obtain ⟨⟨k, cs⟩, hx, rfl, rfl, rfl⟩ := he
  obtain ⟨news, hlen, hcl, hnl, hnr, hf⟩ := src_ok (P := P) hm hsv hx
  have h0 := hf w rfl 0 (Nat.zero_le _)
  generalize a.eval d = q at hdv
  cases hdv
  refine ⟨Nat.le_refl _, .int .i64 0, w, β, ?_, Goes.same hm n, .int _ _⟩
  simp at h0
  simp [Builtin.copy_, run_underlying hu, run_size hs, hlen, h0, goInt]
 ·rename_i id off len cap sz' hv
  rw [hv] at hdv
  have hz := (bif_none he).1
  replace he := (bif_none he).2
  simp at hz; subst hz
  simp only [oBs] at he
  obtain ⟨⟨k, cs⟩, hx, he⟩ := he
  obtain ⟨news, hlen, hcl, hnl, hnr, hf⟩ := src_ok (P := P) hm hsv hx
  have hfc := hf w rfl (min k len) (Nat.min_le_left _ _)
  generalize a.eval d = q at hdv
  cases hdv with
  | sl id off len cap sz' c0 o hk g1 g2 g3 g4 =>
  have hmin : Nat.min k len = min k len := rfl
  cases h0 : (min k len == 0) with
  | true =>
   simp only [h0, cond_true, oSi, pMi] at he
   obtain ⟨rfl, rfl, rfl⟩ := he
   simp only [beq_iff_eq] at h0
   rw [h0] at hfc
   simp at hfc
   refine ⟨Nat.le_refl _, .int .i64 0, w, β, ?_, Goes.same hm n, .int _ _⟩
   simp [Builtin.copy_, run_underlying hu, run_size hs, hlen, hmin, h0, hfc, goInt, storeCells]
  | false =>
   simp only [h0, cond_false] at he
   simp only [beq_eq_false_iff_ne, ne_eq] at h0
   split at he
   ·rename_i cs0 T hid
    have hc := (bif_none he).1
    replace he := (bif_none he).2
    simp only [Bool.and_eq_true] at hc
    have hle := nLb hc.1
    have hone := hc.2
    simp only [oMs, pMi] at he
    obtain ⟨m2, hset, rfl, rfl, rfl⟩ := he
    have ho : o = off := by omega
    subst ho
    have hkl : min k len * sz' ≤ k * sz' := Nat.mul_le_mul_right _ (Nat.min_le_left _ _)
    have htk := hnr.take (min k len * sz') (by omega)
    have hone' : allOne (cs.take (min k len * sz')) = true := by
     have : ∀ (l : List V) (j : Nat), allOne l = true → allOne (l.take j) = true := by
      intro l
      induction l with
      | nil => intro j _; simp [allOne]
      | cons y r ih =>
       intro j h
       cases j with
       | zero => simp [allOne]
       | succ j => cases y <;> simp [allOne] at h ⊢ <;> exact ih j h
     exact this _ _ hone
    have hl2 : (cs.take (min k len * sz')).length = min k len * sz' := by simp; omega
    obtain ⟨w', h1, h2⟩ := store_row (P := P) (off := o) (vs := cs.take (min k len * sz')) hm hid htk (by simp [hnl]) (by rw [hl2]; exact hle) hone' (by rw [hl2]; exact hset) n
    refine ⟨Nat.le_refl _, .int .i64 (min k len : Nat), w', β, ?_, h2, .int _ _⟩
    simp at h1
    simp [Builtin.copy_, run_underlying hu, run_size hs, hlen, hmin, hfc, h1, goInt]
   ·simp at he
 ·simp at he
def putO (w : World) (r : Nat) (o : Obj) : World := { w with heap := w.heap.setIfInBounds r o }
def noCells : Obj → Bool
 | .cells .. => false
 | _ => true
theorem run_getO {r : Nat} {o : Obj} (h : w.heap[r]? = some o) (hc : noCells o = true := by rfl) : (getObj r).run P w = .ok o w := by
 cases o <;> simp [noCells] at hc <;> simp [getObj, Sem.run, h]
theorem run_setO {r : Nat} {o : Obj} (o' : Obj) (h : w.heap[r]? = some o) (hc : noCells o = true := by rfl) : (setObj r o').run P w = .ok () (putO w r o') := by
 cases o <;> simp [noCells] at hc <;> simp [setObj, Sem.run, h, putO]
theorem goes_putO (hm : MS β kn m w) {id : Nat} {b b' : B} (hid : m.get id = some b) {o' : Obj} (hr : BR β kn (β id).2 b' (some o')) (hs : Tr.set fuel m id (some b') = some m') (n : Nat) : Goes β kn m w β (KN kn n n) m' (putO w (β id).1 o') := by
 have hlt := (hm.blk id b hid).2.lt
 exact Goes.turn hm hid hr hs rfl rfl rfl (by simp [putO]) (by simp [putO, hlt]) fun k hk => by simp [putO, Array.getElem?_setIfInBounds_ne (Ne.symm hk)]
theorem beqB (a b : ByteArray) : (a == b) = (a.data.toList == b.data.toList) := by
 cases a with
 | mk x =>
  cases b with
  | mk y =>
   show (x == y) = _
   rw [← Array.beq_toList]
theorem eqB {a b : ByteArray} (h : (a.data.toList == b.data.toList) = true) : a = b := by
 cases a; cases b
 simp only [beq_iff_eq] at h
 rw [Array.ext' h]
def ER (β : Nat → Nat × Nat) (kn : Nat → Prop) (es : List (ByteArray × V)) (en : List MapEntry) : Prop :=
 en.length = es.length ∧ ∀ (i : Nat) (k : ByteArray) (v : V) (e : MapEntry), es[i]? = some (k, v) → en[i]? = some e → e.key = .string k ∧ VR β kn v e.val
theorem find_ok (s : ByteArray) : ∀ {es : List (ByteArray × V)} {en : List MapEntry}, ER β kn es en → ∀ i, ∃ r, Instr.findNow .string (.string s) en i = some r ∧
  ((r = none ∧ findS s es = none ∧ ∀ v, putS s v es = es ++ [(s, v)]) ∨ ∃ p e u, r = some (i + p, e.val) ∧ en[p]? = some e ∧ e.key = .string s ∧ findS s es = some u ∧ VR β kn u e.val ∧ ∀ v, putS s v es = es.set p (s, v))
 | [], [], _, i => ⟨none, rfl, .inl ⟨rfl, rfl, fun _ => rfl⟩⟩
 | [], _ :: _, h, _ => by simp [ER] at h
 | _ :: _, [], h, _ => by simp [ER] at h
 | (k, x) :: es, e :: en, h, i => by
  obtain ⟨h1, h2⟩ := h
  obtain ⟨hk, hv⟩ := h2 0 k x e rfl rfl
  have hrest : ER β kn es en := ⟨by simpa using h1, fun j k v e a b => h2 (j + 1) k v e (by simpa using a) (by simpa using b)⟩
  obtain ⟨r, g1, g2⟩ := find_ok s hrest (i + 1)
  simp only [Instr.findNow, hk, Instr.sameNow, beqB, findS, putS]
  cases hb : (s.data.toList == k.data.toList) with
  | true =>
   refine ⟨_, rfl, .inr ⟨0, e, x, rfl, rfl, ?_, rfl, hv, fun v => rfl⟩⟩
   rw [hk, eqB hb]
  | false =>
   refine ⟨r, g1, ?_⟩
   rcases g2 with ⟨a1, a2, a3⟩ | ⟨p, e', u, a1, a2, a3, a4, a5, a6⟩
   ·exact .inl ⟨a1, a2, fun v => by simp [a3]⟩
   ·exact .inr ⟨p + 1, e', u, by rw [a1]; congr 2; omega, by simpa using a2, a3, a4, a5, fun v => by simp [a6]⟩
theorem checkKey_str' {ty : TypeId} (hk : P.underlying ty = some .string) (b : Bool) (s : ByteArray) (j : Nat) : (Instr.checkKey b (j + 1) ty (.string s)).run P w = .ok () w := by
 simp [Instr.checkKey, run_underlying hk]
theorem checkKey_str {ty : TypeId} (hk : P.underlying ty = some .string) (b : Bool) (s : ByteArray) : (Instr.checkKey b 10000 ty (.string s)).run P w = .ok () w := checkKey_str' hk b s 9999
theorem sameBits_str (s : ByteArray) (j : Nat) : Instr.sameBits j (.string s) (.string s) = true := by
 cases j <;> simp only [Instr.sameBits, beqB, beq_self_eq_true]
theorem stays_str (s : ByteArray) : (Instr.keyThatStays (.string s) (.string s)).run P w = .ok (.string s) w := by
 simp only [Instr.keyThatStays, sameBits_str s 10000, if_true, Sem.run_pure]
theorem findKey_str {ty : TypeId} (hk : P.underlying ty = some .string) {s : ByteArray} {en : List MapEntry} {r : Option (Nat × Value)} (h : Instr.findNow .string (.string s) en 0 = some r) : (Instr.findKey ty (.string s) en).run P w = .ok r w := by
 simp [Instr.findKey, run_underlying hk, h]
theorem beqL (s k : ByteArray) : (s.data.toList == k.data.toList) = true ↔ s = k := ⟨eqB, fun h => by rw [h]; simp⟩
theorem findS_mem {s : ByteArray} {v : V} : ∀ {es : List (ByteArray × V)}, (es.map (·.1)).Nodup → (findS s es = some v ↔ (s, v) ∈ es)
 | [], _ => by simp [findS]
 | (k, u) :: r, h => by
  simp only [List.map_cons, List.nodup_cons] at h
  have ih := findS_mem (s := s) (v := v) h.2
  simp only [findS]
  cases hb : (s.data.toList == k.data.toList) with
  | true =>
   have hk := (beqL s k).1 hb
   subst hk
   simp only [cond_true, oSi, List.mem_cons, pMi, true_and]
   constructor
   ·rintro rfl; exact .inl rfl
   ·rintro (rfl | hm)
    ·rfl
    ·exact absurd (List.mem_map.2 ⟨_, hm, rfl⟩) h.1
  | false =>
   have hk : s ≠ k := fun e => by rw [(beqL s k).2 e] at hb; cases hb
   simp only [cond_false, ih, List.mem_cons, pMi]
   constructor
   ·exact .inr
   ·rintro (⟨e, _⟩ | hm)
    ·exact absurd e hk
    ·exact hm
theorem findS_perm {s : ByteArray} {es fs : List (ByteArray × V)} (hp : es.Perm fs) (hn : (fs.map (·.1)).Nodup) : findS s es = findS s fs := by
 have hn' := (hp.map (·.1)).nodup_iff.2 hn
 cases h : findS s fs with
 | some v => exact (findS_mem hn').2 (hp.mem_iff.2 ((findS_mem hn).1 h))
 | none =>
  cases h' : findS s es with
  | none => rfl
  | some v => rw [(findS_mem hn).2 (hp.mem_iff.1 ((findS_mem hn').1 h'))] at h; cases h
theorem findS_none {s : ByteArray} : ∀ {es : List (ByteArray × V)}, findS s es = none → s ∉ es.map (·.1)
 | [], _ => by simp
 | (k, u) :: r, h => by
  simp only [findS] at h
  cases hb : (s.data.toList == k.data.toList) with
  | true => rw [hb] at h; simp at h
  | false =>
   rw [hb] at h
   simp only [cond_false] at h
   simp only [List.map_cons, List.mem_cons, not_or]
   exact ⟨fun e => (by rw [(beqL s k).2 e] at hb; cases hb), findS_none h⟩
theorem findS_none' {s : ByteArray} : ∀ {es : List (ByteArray × V)}, s ∉ es.map (·.1) → findS s es = none
 | [], _ => rfl
 | (k, u) :: r, h => by
  simp only [List.map_cons, List.mem_cons, not_or] at h
  simp only [findS]
  cases hb : (s.data.toList == k.data.toList) with
  | true => exact absurd ((beqL s k).1 hb) h.1
  | false => exact findS_none' h.2
theorem putS_new {s : ByteArray} {v : V} : ∀ {es : List (ByteArray × V)}, findS s es = none → putS s v es = es ++ [(s, v)]
 | [], _ => rfl
 | (k, u) :: r, h => by
  simp only [findS] at h
  simp only [putS]
  cases hb : (s.data.toList == k.data.toList) with
  | true => rw [hb] at h; simp at h
  | false => rw [hb] at h; simp only [cond_false] at h ⊢; rw [putS_new h]; rfl
theorem putS_filter {s : ByteArray} {v : V} : ∀ {es : List (ByteArray × V)}, (es.map (·.1)).Nodup → (putS s v es).Perm ((s, v) :: es.filter fun p => !(s.data.toList == p.1.data.toList))
 | [], _ => .refl _
 | (k, u) :: r, h => by
  simp only [List.map_cons, List.nodup_cons] at h
  simp only [putS, List.filter_cons]
  cases hb : (s.data.toList == k.data.toList) with
  | true =>
   have hk := (beqL s k).1 hb
   subst hk
   simp only [cond_true, Bool.not_true, Bool.false_eq_true, if_false]
   rw [List.filter_eq_self.2]
   intro p hp
   cases hq : (s.data.toList == p.1.data.toList) with
   | false => rfl
   | true => exact absurd (List.mem_map.2 ⟨p, hp, ((beqL s p.1).1 hq).symm⟩) h.1
  | false =>
   simp only [cond_false, Bool.not_false, if_true]
   exact ((putS_filter h.2).cons _).trans (List.Perm.swap _ _ _)
theorem putS_perm {s : ByteArray} {v : V} {es fs : List (ByteArray × V)} (hp : es.Perm fs) (hn : (fs.map (·.1)).Nodup) : (putS s v es).Perm (putS s v fs) :=
 (putS_filter ((hp.map (·.1)).nodup_iff.2 hn)).trans (((hp.filter _).cons _).trans (putS_filter hn).symm)
theorem putS_nodup {s : ByteArray} {v : V} {es : List (ByteArray × V)} (hn : (es.map (·.1)).Nodup) : ((putS s v es).map (·.1)).Nodup := by
 refine ((putS_filter hn).map (·.1)).nodup_iff.2 ?_
 simp only [List.map_cons, List.nodup_cons]
 refine ⟨fun h => ?_, (List.filter_sublist.map _).nodup hn⟩
 obtain ⟨p, hp, e⟩ := List.mem_map.1 h
 have := (List.mem_filter.1 hp).2
 rw [(beqL s p.1).2 e.symm] at this
 cases this
theorem mkMap_ok (hm : MS β kn m w) (hn : n < n' → ¬ kn n) {ty : TypeId} (he : evM .mkMap t m n = some (v, m', n')) : MOk P β kn m w n v m' n' (Instr.makeMap ty none) := by
 simp only [evM, newK, oMs, pMi] at he
 obtain ⟨m2, hs, rfl, rfl, rfl⟩ := he
 have hg := Goes.new (w1 := w) (sz := 0) (o := .map #[] 0) hm (hn (by omega)) (b := .map []) ⟨#[], 0, [], rfl, rfl, by simp, .refl _, by simp⟩ hs ⟨rfl, rfl, rfl, rfl⟩
 refine ⟨by omega, .map (some w.heap.size), _, _, by simp [Instr.makeMap], hg, ?_⟩
 have := VR.mp (β := fun i => if i = n then (w.heap.size, 0) else β i) (kn := KN kn n (n + 1)) n (kn_new kn n)
 simpa using this
theorem mapSet_ok (ht : TR β kn t a N ds) (hm : MS β kn m w) {ty kt e : TypeId} {x k y : Operand} (hu : P.underlying ty = some (.map kt e)) (hk : P.underlying kt = some .string) (he : evM (.mapSet (resX x) (resX k) (resX y)) t m n = some (v, m', n')) :
  n' = n ∧ v = .tup [] ∧ ∃ w', (Instr.mapUpdate ty (a.eval x) (a.eval k) (a.eval y)).run P w = .ok () w' ∧ Goes β kn m w β (KN kn n n) m' w' := by
 have hx := val_ok ht x
 simp only [evM] at he
 split at he
 ·rename_i id hv
  rw [hv] at hx
  split at he
  ·rename_i es hid
   simp only [oBs, oMs, pMi] at he
   obtain ⟨s, hs, m2, hset, rfl, rfl, rfl⟩ := he
   have hks := asStr_ok hs (val_ok ht k)
   have hy := val_ok ht y
   obtain ⟨_, en, ck, fs, h1, h2, h3, hperm, hnd⟩ := hm.blk id _ hid
   have hER : ER β kn fs en.toList := ⟨by simpa using h2, fun i k v e a b => h3 i k v e a (by simpa using b)⟩
   obtain ⟨r, g1, g2⟩ := find_ok s hER 0
   have hpp := putS_perm (s := s) (v := val t (resX y)) hperm hnd
   have hnn := putS_nodup (s := s) (v := val t (resX y)) hnd
   generalize a.eval x = q at hx
   cases hx with
   | mp id hkn =>
   refine ⟨rfl, rfl, ?_⟩
   rcases g2 with ⟨rfl, a2, a3⟩ | ⟨p, e', u, rfl, b2, b3, b4, b5, b6⟩
   ·refine ⟨putO w (β id).1 (.map (en.push { key := .string s, val := a.eval y, born := ck }) (ck + 1)), ?_, goes_putO hm hid ?_ hset n⟩
    ·simp only [Instr.mapUpdate, hks, Sem.run_bind, run_underlying hu, Result.andThen_ok, run_getO h1, checkKey_str hk, findKey_str hk g1, run_setO _ h1]
    ·refine ⟨_, _, _, rfl, by simp [h2], fun i k v e' e1 e2 => ?_, (a3 (val t (resX y)) ▸ hpp), hnn⟩
     rcases Nat.lt_or_ge i fs.length with hi | hi
     ·rw [List.getElem?_append_left hi] at e1
      rw [Array.getElem?_push, if_neg (by omega)] at e2
      exact h3 i k v e' e1 e2
     ·rw [List.getElem?_append_right hi] at e1
      have hi0 : i = fs.length := by
       have := (gEs e1).1
       simp at this; omega
      subst hi0
      simp at e1
      rw [Array.getElem?_push, if_pos h2.symm] at e2
      injection e2 with e2; subst e2
      obtain ⟨rfl, rfl⟩ := e1
      exact ⟨rfl, hy⟩
   ·have hpn : en[p]? = some e' := by simpa using b2
    have hplt : p < en.size := (Array.getElem?_eq_some_iff.1 hpn).1
    refine ⟨putO w (β id).1 (.map (en.modify p fun e => { e with key := .string s, val := a.eval y }) ck), ?_, goes_putO hm hid ?_ hset n⟩
    ·have hst : (Instr.keyThatStays (((en[p]?).map (·.key)).getD (.string s)) (.string s)).run P w = .ok (.string s) w := by
      rw [hpn]; simp only [Option.map_some, Option.getD_some, b3]; exact stays_str s
     simp only [Instr.mapUpdate, hks, Sem.run_bind, run_underlying hu, Result.andThen_ok, run_getO h1, checkKey_str hk, findKey_str hk g1, Nat.zero_add, hst, run_setO _ h1]
    ·refine ⟨_, _, _, rfl, by simp [h2], fun i k v e'' e1 e2 => ?_, (b6 (val t (resX y)) ▸ hpp), hnn⟩
     by_cases hi : i = p
     ·subst hi
      rw [List.getElem?_set_self (by omega)] at e1
      injection e1 with e1; injection e1 with e1 e3; subst e1 e3
      rw [Array.getElem?_modify, if_pos rfl, hpn] at e2
      simp at e2; subst e2
      exact ⟨rfl, hy⟩
     ·rw [List.getElem?_set_ne (fun h => hi h.symm)] at e1
      rw [Array.getElem?_modify, if_neg (fun h => hi h.symm)] at e2
      exact h3 i k v e'' e1 e2
  ·simp at he
 ·simp at he
theorem lookup_ok (ht : TR β kn t a N ds) (hm : MS β kn m w) {ty kt e : TypeId} {x k : Operand} {ok : Bool} {i : TypeInfo} {z : Value} (hu : P.underlying ty = some (.map kt e)) (hk : P.underlying kt = some .string) (hi : P.info? e = some i) (hz : i.zero = some z)
  (he : evM (.lookup (constV z) ok (resX x) (resX k)) t m n = some (v, m', n')) : m' = m ∧ n' = n ∧ ∃ y, (Instr.lookup ty (a.eval x) (a.eval k) ok).run P w = .ok y w ∧ VR β kn v y := by
 have hx := val_ok ht x
 simp only [evM, oBs] at he
 obtain ⟨es, hes, s, hs, he⟩ := he
 simp only [oSi, pMi] at he
 obtain ⟨rfl, rfl, rfl⟩ := he
 have hks := asStr_ok hs (val_ok ht k)
 have hzv : (zeroValue e).run P w = .ok z w := by simp [zeroValue, typeInfo, hi, hz]
 have key : ∀ (fs : List (ByteArray × V)) (en : List MapEntry) (b : Bool), ER β kn fs en → findS s fs = findS s es → ∃ y, (do
   Instr.checkKey b 10000 kt (.string s)
   let (v, ok') ← match ← Instr.findKey kt (.string s) en with
    | some (_, v) => pure (v, true)
    | none => pure (← zeroValue e, false)
   pure (if ok then .tuple #[v, .bool ok'] else v) : Sem Value).run P w = .ok y w ∧ VR β kn (bif ok then .tup [(findS s es).getD (constV z), .bool (findS s es).isSome] else (findS s es).getD (constV z)) y := by
  intro fs en b hER hfs
  obtain ⟨r, g1, g2⟩ := find_ok s hER 0
  rw [← hfs]
  have tup2 : ∀ {u : V} {y : Value} {q : Bool}, VR β kn u y → VR β kn (.tup [u, .bool q]) (.tuple #[y, .bool q]) := by
   intro u y q h
   refine .tup _ _ rfl fun i v x e1 e2 => ?_
   match i with
   | 0 => simp at e1 e2; subst e1 e2; exact h
   | 1 => simp at e1 e2; subst e1 e2; exact .bool _
   | i + 2 => simp at e1
  rcases g2 with ⟨rfl, a2, a3⟩ | ⟨p, e', u, rfl, b2, b3, b4, b5, b6⟩
  ·rw [a2]
   refine ⟨if ok then .tuple #[z, .bool false] else z, ?_, ?_⟩
   ·simp only [Sem.run_bind, checkKey_str hk, findKey_str hk g1, Result.andThen_ok, hzv, Sem.run_pure]
   ·cases ok
    ·exact constV_ok z
    ·exact tup2 (constV_ok z)
  ·rw [b4]
   refine ⟨if ok then .tuple #[e'.val, .bool true] else e'.val, ?_, ?_⟩
   ·simp only [Sem.run_bind, checkKey_str hk, findKey_str hk g1, Result.andThen_ok, Sem.run_pure]
   ·cases ok
    ·exact b5
    ·exact tup2 b5
 refine ⟨rfl, rfl, ?_⟩
 rw [hks]
 unfold mapOf at hes
 split at hes
 ·rename_i hv
  rw [hv] at hx
  simp only [oSi] at hes; subst hes
  generalize a.eval x = q at hx
  cases hx
  obtain ⟨y, h1, h2⟩ := key [] [] true ⟨rfl, by simp⟩ rfl
  refine ⟨y, ?_, h2⟩
  rw [← h1]
  simp only [Instr.lookup, Sem.run_bind, run_underlying hu, Result.andThen_ok, Sem.run_pure]
  rfl
 ·rename_i id hv
  rw [hv] at hx
  split at hes
  ·rename_i es' hid
   simp only [oSi] at hes; subst hes
   obtain ⟨_, en, ck, fs, h1, h2, h3, hperm, hnd⟩ := hm.blk id _ hid
   have hER : ER β kn fs en.toList := ⟨by simpa using h2, fun i k v e a b => h3 i k v e a (by simpa using b)⟩
   generalize a.eval x = q at hx
   cases hx with
   | mp id hkn =>
   obtain ⟨y, h4, h5⟩ := key fs en.toList en.isEmpty hER (findS_perm hperm hnd)
   refine ⟨y, ?_, h5⟩
   rw [← h4]
   simp only [Instr.lookup, Sem.run_bind, run_underlying hu, Result.andThen_ok, run_getO h1, Sem.run_pure]
   rfl
  ·simp at hes
 ·simp at hes
theorem range_ok (ht : TR β kn t a N ds) (hm : MS β kn m w) (hn : n < n' → ¬ kn n) {ty : TypeId} {x : Operand} (hu : P.underlying ty = some .string) (he : evM (.range (resX x)) t m n = some (v, m', n')) : MOk P β kn m w n v m' n' (Instr.range ty (a.eval x)) := by
 simp only [evM, oBs, newK, oMs, pMi] at he
 obtain ⟨s, hs, m2, hset, rfl, rfl, rfl⟩ := he
 have hx := asStr_ok hs (val_ok ht x)
 have hg := Goes.new (w1 := w) (sz := 0) (o := .stringIter s 0) hm (hn (by omega)) (b := .iter s 0) rfl hset ⟨rfl, rfl, rfl, rfl⟩
 refine ⟨by omega, .pointer (some ⟨w.heap.size, 0, none⟩), _, _, by simp [Instr.range, run_underlying hu, hx], hg, ?_⟩
 have := VR.ptr (β := fun i => if i = n then (w.heap.size, 0) else β i) (kn := KN kn n (n + 1)) n 0 (kn_new kn n)
 simpa using this
theorem next_ok (ht : TR β kn t a N ds) (hm : MS β kn m w) {ty : TypeId} {x : Operand} (he : evM (.next (resX x)) t m n = some (v, m', n')) : MOk P β kn m w n v m' n' (Instr.next (a.eval x) true ty) := by
 have hx := val_ok ht x
 simp only [evM] at he
 split at he
 ·rename_i id hv
  rw [hv] at hx
  split at he
  ·rename_i s pos hid
   have h1 : w.heap[(β id).1]? = some (.stringIter s pos) := (hm.blk id _ hid).2
   generalize a.eval x = q at hx
   cases hx with
   | ptr id off hk =>
   cases hlt : Nat.blt pos s.size with
   | true =>
    simp only [hlt, cond_true, oMs, pMi] at he
    obtain ⟨m2, hset, rfl, rfl, rfl⟩ := he
    have hlt : pos < s.size := nLb hlt
    refine ⟨Nat.le_refl _, .tuple #[.bool true, .int .i64 pos, .int .i32 (Utf8.decode s pos).1], putO w (β id).1 (.stringIter s (pos + (Utf8.decode s pos).2)), β, ?_, goes_putO hm hid (b' := .iter s (pos + (Utf8.decode s pos).2)) rfl hset n, ?_⟩
    ·simp only [Instr.next, Sem.run_bind, run_getO h1, Result.andThen_ok, if_pos hlt, run_setO _ h1, Sem.run_pure, goInt]
    ·refine .tup _ _ rfl fun i v x e1 e2 => ?_
     match i with
     | 0 => simp at e1 e2; subst e1 e2; exact .bool _
     | 1 => simp at e1 e2; subst e1 e2; exact .int _ _
     | 2 => simp at e1 e2; subst e1 e2; exact .int _ _
     | i + 3 => simp at e1
   | false =>
    simp only [hlt, cond_false, oSi, pMi] at he
    obtain ⟨rfl, rfl, rfl⟩ := he
    have hge : ¬ pos < s.size := fun h => by rw [show Nat.blt pos s.size = true from Nat.ble_eq_true_of_le h] at hlt; cases hlt
    refine ⟨Nat.le_refl _, .tuple #[.bool false], w, β, ?_, Goes.same hm n, ?_⟩
    ·simp only [Instr.next, Sem.run_bind, run_getO h1, Result.andThen_ok, if_neg hge, Sem.run_pure]
    ·refine .tup _ _ rfl fun i v x e1 e2 => ?_
     match i with
     | 0 => simp at e1 e2; subst e1 e2; exact .bool _
     | i + 1 => simp at e1
  ·simp at he
 ·simp at he
theorem byteT_ok {e : TypeId} (h : byteT P e = true) : P.underlying e = some (.int .u8) ∧ szOf P e = some 1 ∧ P.cellsOf e = 1 := by
 unfold byteT at h
 split at h
 ·rename_i hu
  simp only [Bool.and_eq_true, beq_iff_eq] at h
  exact ⟨hu, h.1, h.2⟩
 ·cases h
theorem bytesV_ok : ∀ {cs : List V} {b : List UInt8}, bytesV cs = some b → ∀ {news : List Value}, news.length = cs.length → (∀ (i : Nat) (v : V) (x : Value), cs[i]? = some v → news[i]? = some x → VR β kn v x) → news = (b.map fun c => (c.toNat : Int)).map (Value.int .u8)
 | [], b, h, news, hl, _ => by
  simp only [bytesV, oSi] at h; subst h
  simpa using hl
 | c :: r, b, h, news, hl, hr => by
  unfold bytesV at h
  split at h
  ·rename_i _ h1; cases h1
  ·rename_i _ k r' h1
   injection h1 with h1 h2; subst h1 h2
   have hc := (bif_none h).1
   replace h := (bif_none h).2
   simp only [Bool.and_eq_true] at hc
   have c1 := leI_iff hc.1; have c2 := leI_iff hc.2
   simp only [oMs] at h
   obtain ⟨l, h, rfl⟩ := h
   cases news with
   | nil => simp at hl
   | cons x news =>
    have hx := hr 0 _ x rfl rfl
    cases hx
    have ih := bytesV_ok h (news := news) (by simpa using hl) fun i v x a b => hr (i + 1) v x (by simpa using a) (by simpa using b)
    rw [ih]
    have hk : ((UInt8.ofNat k.toNat).toNat : Int) = k := by
     have : k.toNat < 256 := by omega
     rw [UInt8.toNat_ofNat_of_lt' (by simpa using this)]; omega
    simp only [List.map_cons, hk]
  ·cases h
theorem bytesV_back (b : List UInt8) : (b.map fun c => (c.toNat : Int)).map (fun n => UInt8.ofNat n.toNat) = b := by
 induction b with
 | nil => rfl
 | cons c r ih => simp only [List.map_cons, ih]; simp
theorem goes_lose (hm : MS β kn m w) {id : Nat} {b : B} (hid : m.get id = some b) (hs : Tr.set fuel m id none = some m') {w' : World} (h1 : w'.os = w.os) (h2 : w'.tape = w.tape) (h3 : w'.output = w.output) (h4 : w'.heap.size = w.heap.size)
  (hoth : ∀ k, k ≠ (β id).1 → w'.heap[k]? = w.heap[k]?) (n : Nat) : Goes β kn m w β (KN kn n n) m' w' := by
 rw [KN_same]
 have hg := Tr.get_set hs
 have hold : ∀ i b, m'.get i = some b → i ≠ id ∧ m.get i = some b := fun i b e => by
  rw [hg] at e
  by_cases hi : i = id
  ·rw [if_pos hi] at e; cases e
  ·rw [if_neg hi] at e; exact ⟨hi, e⟩
 refine ⟨Ext.refl _ _, ⟨h1, h2, h3, by omega, fun b _ hno => hoth b (fun e => hno id _ hid e.symm), fun i c e => .inl ⟨i, c, (hold i c e).2, rfl⟩⟩, ⟨fun i b e => ?_, fun i j b c e1 e2 e3 => hm.inj i j b c (hold i b e1).2 (hold j c e2).2 e3, fun q hq => ⟨by rw [hoth _ (fun e => (hm.gl q hq).2 id _ hid e.symm)]; exact (hm.gl q hq).1, fun i c e => (hm.gl q hq).2 i c (hold i c e).2⟩⟩⟩
 obtain ⟨hi, e'⟩ := hold i b e
 obtain ⟨g1, g2⟩ := hm.blk i b e'
 exact ⟨g1, by rw [hoth _ (fun e2 => hi (hm.inj i id _ _ e' hid e2))]; exact g2⟩
theorem freeze_size (w : World) (p : Addr) (k : Nat) : (w.freeze p k).heap.size = w.heap.size := by
 unfold World.freeze; split <;> simp
theorem freeze_other (w : World) (p : Addr) (k j : Nat) (h : j ≠ p.block) : (w.freeze p k).heap[j]? = w.heap[j]? := by
 unfold World.freeze
 split
 ·rfl
 ·simp only [Array.getElem?_modify, if_neg (Ne.symm h)]
theorem freeze_rest (w : World) (p : Addr) (k : Nat) : (w.freeze p k).os = w.os ∧ (w.freeze p k).tape = w.tape ∧ (w.freeze p k).output = w.output := by
 unfold World.freeze; split <;> exact ⟨rfl, rfl, rfl⟩
theorem uStr_ok (ht : TR β kn t a N ds) (hm : MS β kn m w) {pt it e tt : TypeId} {x l : Operand} (hp : P.underlying pt = some (.pointer e)) (he1 : byteT P e = true) (he : evM (.uStr e (resX x) (resX l)) t m n = some (v, m', n')) :
  MOk P β kn m w n v m' n' (Builtin.unsafeString_ #[pt, it] tt #[a.eval x, a.eval l]) := by
 obtain ⟨b1, b2, b3⟩ := byteT_ok he1
 have hx := val_ok ht x
 simp only [evM, oBs] at he
 obtain ⟨k, hk, he⟩ := he
 have hl := asIntK_ok hk (val_ok ht l)
 rw [hl]
 have none_ : ∀ (q : Option Addr), k = 0 → MOk P β kn m w n (.str ⟨#[]⟩) m n (Builtin.unsafeString_ #[pt, it] tt #[.pointer q, .int .i64 k]) := by
  rintro q rfl
  exact ⟨Nat.le_refl _, _, w, β, Lib.run_unsafeString_none w pt it tt q, Goes.same hm n, .str _⟩
 split at he
 ·rename_i hv
  rw [hv] at hx
  have hc := (bif_none he).1
  replace he := (bif_none he).2
  simp only [oSi, pMi] at he
  obtain ⟨rfl, rfl, rfl⟩ := he
  generalize a.eval x = q at hx
  cases hx
  exact none_ _ (by simpa using hc)
 ·rename_i id off hv
  rw [hv] at hx
  generalize a.eval x = q at hx
  cases hx with
  | ptr id off hkn =>
  cases h0 : (k == 0) with
  | true =>
   simp only [h0, cond_true, oSi, pMi] at he
   obtain ⟨rfl, rfl, rfl⟩ := he
   exact none_ _ (by simpa using h0)
  | false =>
   simp only [h0, cond_false] at he
   split at he
   ·rename_i cs T hid
    have hc := (bif_none he).1
    replace he := (bif_none he).2
    simp only [Bool.and_eq_true, beq_iff_eq] at hc
    obtain ⟨⟨⟨⟨rfl, rfl⟩, c1⟩, c2⟩, c3⟩ := hc
    have c1 := leI_iff c1; have c2 := leI_iff c2; have c3 := nLb c3
    simp only [oBs, oMs, pMi] at he
    obtain ⟨b, hb, m2, hset, rfl, rfl, rfl⟩ := he
    obtain ⟨_, arr, hbk, hsz, hr⟩ := hm.blk id _ hid
    have hr1 := hr.1
    have hcells := bytesV_ok (β := β) (kn := kn) hb (news := arr.toList.take k.toNat) (by simp; omega) (fun i u x e1 e2 => by
     have hi : i < k.toNat := by have := (gEs e1).1; simp at this; omega
     rw [List.getElem?_take_of_lt hi] at e1 e2
     exact hr.2 i u x e1 (by simpa using e2))
    have hbl : b.length = k.toNat := by
     have := congrArg List.length hcells
     simp at this; omega
    have hkk : k = (b.length : Int) := by omega
    have hsh : w.shape? (β id).1 = some (T, arr.size) := by simp [World.shape?, hbk]
    have hrun := Lib.run_unsafeString_row (P := P) w pt it tt T hp b3 (β id).1 arr.size hsh b (by intro e; rw [e] at hbl; simp at hbl; omega) (by omega) (by omega) (fun j y hj => by
     rw [addr_add, Nat.zero_add]
     simp only [World.cell?, hbk]
     have hlt : j < k.toNat := by have := (gEs hj).1; omega
     have e2 : (arr.toList.take k.toNat)[j]? = some (.int .u8 y.toNat) := by rw [hcells]; simp [hj]
     rw [List.getElem?_take_of_lt hlt] at e2
     simpa using e2)
    rw [← hkk] at hrun
    obtain ⟨f1, f2, f3⟩ := freeze_rest w ⟨(β id).1, 0, none⟩ b.length
    exact ⟨Nat.le_refl _, _, _, β, hrun, goes_lose hm hid hset f1 f2 f3 (freeze_size _ _ _) (fun j hj => freeze_other _ _ _ _ hj) _, .str _⟩
   ·cases he
 ·cases he
theorem szOf_info {u : TypeId} {k : Nat} (h : szOf P u = some k) : ∃ j, P.info? u = some j ∧ j.size = k := by
 simpa [szOf, oMs] using h
theorem rowAt_mono {fits : TypeId → Bool} {d : Nat} {e : TypeId} {c c' off k : Nat} (hc : c ≤ c') (h : rowAt P fits d e c off k = true) : rowAt P fits d e c' off k = true := by
 cases d with
 | zero => exact h
 | succ d =>
  simp only [rowAt] at h ⊢
  split at h
  ·cases h
  ·rename_i hs
   rw [if_neg hs]
   simp only [Bool.or_eq_true, Bool.and_eq_true, decide_eq_true_eq] at h ⊢
   rcases h with ⟨⟨h1, h2⟩, h3⟩ | ⟨h1, h2⟩
   ·exact .inl ⟨⟨h1, by omega⟩, h3⟩
   ·exact .inr ⟨by omega, h2⟩
theorem liesAt_mono {c c' : Nat} (hc : c ≤ c') : ∀ {d : Nat} {e : TypeId} {off : Nat} {u : TypeId} {k : Nat}, liesAt P d e c off u k = true → liesAt P d e c' off u k = true
 | 0, _, _, _, _, h => by simp [liesAt] at h
 | d + 1, e, off, u, k, h => by
  simp only [liesAt, Bool.or_eq_true] at h ⊢
  rcases h with h | h
  ·exact .inl (rowAt_mono hc h)
  ·right
   split at h
   ·exact liesAt_mono hc h
   ·cases h
theorem toU_ok (ht : TR β kn t a N ds) (hm : MS β kn m w) {src dst ty : TypeId} {k : Nat} {x : Operand} (hs : P.underlying src = some (.pointer ty)) (hd : P.underlying dst = some .unsafePointer) (hsz : szOf P ty = some (k + 1)) (he : evM (.toU (resX x)) t m n = some (v, m', n')) :
  m' = m ∧ n' = n ∧ ∃ y, (convert src dst (a.eval x)).run P w = .ok y w ∧ VR β kn v y := by
 have hx := val_ok ht x
 simp only [evM] at he
 split at he
 ·rename_i hv
  rw [hv] at hx
  simp only [oSi, pMi] at he
  obtain ⟨rfl, rfl, rfl⟩ := he
  generalize a.eval x = q at hx
  cases hx
  exact ⟨rfl, rfl, .pointer none, by simp [convert, run_underlying hs, run_underlying hd, Conv.unsafePointer], .nilp⟩
 ·rename_i id off hv
  rw [hv] at hx
  split at he
  ·rename_i cs T hid
   have hc := (bif_none he).1
   replace he := (bif_none he).2
   have hc : off < cs.length := nLb hc
   simp only [oSi, pMi] at he
   obtain ⟨rfl, rfl, rfl⟩ := he
   obtain ⟨_, arr, hbk, hsz2, hr⟩ := hm.blk id _ hid
   have hr1 := hr.1
   obtain ⟨j, hj1, hj2⟩ := szOf_info hsz
   generalize a.eval x = q at hx
   cases hx with
   | ptr id off hkn =>
   exact ⟨rfl, rfl, _, Lib.run_to_unsafe w (e := T) (cells := arr.size) ⟨(β id).1, off, none⟩ hs hd hj1 (by omega) (by simp [World.shape?, hbk]) (by simp; omega), .ptr id off hkn⟩
  ·cases he
 ·cases he
theorem frU_ok (ht : TR β kn t a N ds) (hm : MS β kn m w) {src dst u : TypeId} {x : Operand} (hs : P.underlying src = some .unsafePointer) (hd : P.underlying dst = some (.pointer u)) (hv : viewsOk P u = true) (hsz : (szOf P u).isSome = true)
  (he : evM (.frU ((CtxV.views u).map fun (T, off, c) => (T, off, c * P.cellsOf T)) (resX x)) t m n = some (v, m', n')) :
  m' = m ∧ n' = n ∧ ∃ y, (convert src dst (a.eval x)).run P w = .ok y w ∧ VR β kn v y := by
 have hx := val_ok ht x
 simp only [evM] at he
 split at he
 ·rename_i hv
  rw [hv] at hx
  simp only [oSi, pMi] at he
  obtain ⟨rfl, rfl, rfl⟩ := he
  generalize a.eval x = q at hx
  cases hx
  exact ⟨rfl, rfl, .pointer none, by simp [convert, run_underlying hs, run_underlying hd, Conv.unsafePointer], .nilp⟩
 ·rename_i id off hv2
  rw [hv2] at hx
  split at he
  ·rename_i cs T hid
   have hc := (bif_none he).1
   replace he := (bif_none he).2
   simp only [oSi, pMi] at he
   obtain ⟨rfl, rfl, rfl⟩ := he
   obtain ⟨_, arr, hbk, hsz2, hr⟩ := hm.blk id _ hid
   have hr1 := hr.1
   rw [Option.isSome_iff_exists] at hsz
   obtain ⟨sz, hsz⟩ := hsz
   obtain ⟨j, hj1, hj2⟩ := szOf_info hsz
   simp only [List.any_map, List.any_eq_true, Function.comp, Bool.and_eq_true, beq_iff_eq] at hc
   obtain ⟨⟨T', off', c⟩, hmem, ⟨rfl, rfl⟩, hle⟩ := hc
   have hle := nLb hle
   simp only [viewsOk, List.all_eq_true, Bool.and_eq_true] at hv
   obtain ⟨q1, q2⟩ := hv _ hmem
   have q2 : 0 < P.cellsOf T' := nLb q2
   have hcount : c ≤ arr.size / P.cellsOf T' := by
    rw [Nat.le_div_iff_mul_le q2]; simp only at hle; omega
   generalize a.eval x = q at hx
   cases hx with
   | ptr id off hkn =>
   exact ⟨rfl, rfl, _, Lib.run_from_unsafe w (e := T') (cells := arr.size) ⟨(β id).1, off', none⟩ hs hd hj1 (by simp [World.shape?, hbk]) (liesAt_mono hcount q1), .ptr id off' hkn⟩
  ·cases he
 ·cases he
theorem toS_ok (ht : TR β kn t a N ds) (hm : MS β kn m w) {src dst e : TypeId} {x : Operand} (hs : P.underlying src = some (.slice e)) (hd : P.underlying dst = some .string) (hb : byteT P e = true) (he : evM (.toS (resX x)) t m n = some (v, m', n')) :
  m' = m ∧ n' = n ∧ ∃ y, (convert src dst (a.eval x)).run P w = .ok y w ∧ VR β kn v y := by
 obtain ⟨b1, b2, b3⟩ := byteT_ok hb
 have hx := val_ok ht x
 simp only [evM] at he
 split at he
 ·cases he
 ·rename_i hns
  simp only [oBs, oMs, pMi] at he
  obtain ⟨⟨k, cs⟩, hel, b, hb, rfl, rfl, rfl⟩ := he
  obtain ⟨news, hlen, hcl, hnl, hnr, hf⟩ := src_ok (P := P) hm hx hel
  have hcells := bytesV_ok (β := β) (kn := kn) hb hnl (fun i u x e1 e2 => hnr.2 i u x e1 (by simpa using e2))
  have hfk := hf w rfl k (Nat.le_refl _)
  rw [← hcl, ← hnl, List.take_length, hcells] at hfk
  have hbl : b.length = k := by
   have := congrArg List.length hcells
   simp at this; omega
  refine ⟨rfl, rfl, .string ⟨b.toArray⟩, ?_, .str _⟩
  generalize hq : val t (resX x) = q at hx hel hns
  generalize a.eval x = y at hx hlen hfk
  unfold elsV at hel
  split at hel
  ·cases hx
   simp only [oSi, pMi] at hel
   obtain ⟨rfl, rfl⟩ := hel
   have : b = [] := List.eq_nil_of_length_eq_zero hbl
   subst this
   rw [run_convert_bytes_nil w src e hs b1 0 0 dst hd]
   rfl
  ·rename_i id off len cap sz'
   cases hx with
   | sl id off len cap sz' c o hk g1 g2 g3 g4 =>
   have hkl : k = len := by
    have := hlen w
    simp [Builtin.lenOf] at this; exact this.symm
   subst hkl
   have hl : (loadCells ⟨(β id).1, o, none⟩ k).run P w = .ok ((b.map fun c => (c.toNat : Int)).map (Value.int .u8)).toArray w := by
    simpa [Builtin.firstCells] using hfk
   rw [run_convert_bytes_string w src dst e _ k c hs b1 hd, run_bytesToString w _ k c _ hl, foldl_push_bytes, bytesV_back]
   have e0 : ByteArray.empty.data ++ b.toArray = b.toArray := by
    have : ByteArray.empty.data = #[] := rfl
    rw [this]; simp
   rw [e0]
  ·exact absurd rfl (hns _)
  ·cases hel
theorem bytesWorld_eq (w : World) (e : TypeId) (s : ByteArray) : Lib.bytesWorld w e s = w.drew.alloc (.cells (Lib.bytesCells w e s) e ((Lib.bytesCells w e s).size, (Lib.bytesCells w e s).size + 1)) := by
 have h : ∀ (h : Array Obj) (f : Obj → Obj) (o : Obj), (h.push o).modify h.size f = h.push (f o) := by
  intro h f o
  apply Array.ext_getElem?
  intro i
  simp only [Array.getElem?_modify, Array.getElem?_push]
  by_cases hi : i = h.size
  ·subst hi; simp
  ·simp [hi, Ne.symm hi]
 unfold Lib.bytesWorld World.freeze
 simp only [Nat.one_ne_zero, if_false]
 have h2 := h w.drew.heap (fun o => match o with
  | .cells c elem (lo, hi) => .cells c elem (if lo == hi then ((Lib.bytesCells w e s).size, (Lib.bytesCells w e s).size + 1) else (min lo (Lib.bytesCells w e s).size, max hi ((Lib.bytesCells w e s).size + 1)))
  | o => o) (.cells (Lib.bytesCells w e s) e)
 show ({ heap := _, tape := w.tape, drawn := w.drew.drawn, os := w.os, output := w.output } : World) = { heap := w.drew.heap.push _, tape := w.tape, drawn := w.drew.drawn, os := w.os, output := w.output }
 congr 1
theorem toB_ok (ht : TR β kn t a N ds) (hm : MS β kn m w) (hn : n < n' → ¬ kn n) {src dst e : TypeId} {x : Operand} (hs : P.underlying src = some .string) (hd : P.underlying dst = some (.slice e)) (hb : byteT P e = true) (he : evM (.toB (resX x)) t m n = some (v, m', n')) :
  MOk P β kn m w n v m' n' (convert src dst (a.eval x)) := by
 obtain ⟨b1, b2, b3⟩ := byteT_ok hb
 simp only [evM, oBs, newK, oMs, pMi] at he
 obtain ⟨s, hst, m2, hset, rfl, rfl, rfl⟩ := he
 have hx := asStr_ok hst (val_ok ht x)
 have hcap := grownCap_ge w s.size 0 e
 have hsize : (Lib.bytesCells w e s).size = grownCap w s.size 0 e := by
  have : s.data.size = s.size := rfl
  simp [Lib.bytesCells, this]; omega
 have hrow : VRow (fun i => if i = n then (w.heap.size, grownCap w s.size 0 e) else β i) (KN kn n (n + 1)) (Lib.bytesCells w e s) 0 (bytesL s) := by
  have hsl : (bytesL s).length = s.size := by simp only [bytesL, List.length_map, Array.length_toList]; rfl
  refine ⟨by omega, fun i u y e1 e2 => ?_⟩
  have hi : i < s.size := by rw [← hsl]; exact (gEs e1).1
  have hi' : i < s.data.size := hi
  simp only [bytesL, List.getElem?_map, oMs] at e1
  obtain ⟨c, hc, rfl⟩ := e1
  rw [Nat.zero_add, Lib.bytesCells, Array.getElem?_append_left (by simpa using hi'), Array.getElem?_map] at e2
  simp only [Array.getElem?_toList] at hc
  rw [hc] at e2
  injection e2 with e2; subst e2
  exact .int _ _
 have hg := Goes.new (w1 := w.drew) (sz := grownCap w s.size 0 e) (o := .cells (Lib.bytesCells w e s) e ((Lib.bytesCells w e s).size, (Lib.bytesCells w e s).size + 1)) hm (hn (by omega)) (b := .ro (bytesL s)) ⟨_, _, _, rfl, hrow⟩ hset ⟨rfl, rfl, rfl, rfl⟩
 rw [← bytesWorld_eq] at hg
 refine ⟨by omega, _, _, _, by rw [hx]; exact Lib.run_convert_string_bytes w src dst e s hs hd b1, hg, ?_⟩
 have := VR.sl (β := fun i => if i = n then (w.heap.size, grownCap w s.size 0 e) else β i) (kn := KN kn n (n + 1)) n 0 s.size none 1 (grownCap w s.size 0 e) 0 (kn_new kn n) hcap (by simp) (by simp) (.inl rfl)
 simpa using this
theorem clr_ok (ht : TR β kn t a N ds) (hm : MS β kn m w) {ty e tt : TypeId} {sz : Nat} {z : List V} {x : Operand} (he1 : elemT P ty = some e) (hs : szOf P e = some sz) (hz : zeroVs P e = some z) (he : evM (.clr z sz (resX x)) t m n = some (v, m', n')) :
  MOk P β kn m w n v m' n' (Builtin.clear_ #[ty] tt #[a.eval x]) := by
 have hu := elemT_ok he1
 obtain ⟨zv, g1, g2, g3⟩ := run_zero hz
 have hx := val_ok ht x
 simp only [evM] at he
 split at he
 ·rename_i hv
  rw [hv] at hx
  simp only [oSi, pMi] at he
  obtain ⟨rfl, rfl, rfl⟩ := he
  generalize a.eval x = q at hx
  cases hx
  exact ⟨Nat.le_refl _, .tuple #[], w, β, by simp [Builtin.clear_, run_underlying hu], Goes.same hm n, .tup _ _ rfl (by simp)⟩
 ·rename_i id off len cap sz' hv
  rw [hv] at hx
  generalize a.eval x = q at hx
  cases hx with
  | sl id off len cap sz' c o hk q1 q2 q3 q4 =>
  cases h0 : (len == 0) with
  | true =>
   simp only [h0, cond_true, oSi, pMi] at he
   obtain ⟨rfl, rfl, rfl⟩ := he
   have h0 : len = 0 := by simpa using h0
   subst h0
   exact ⟨Nat.le_refl _, .tuple #[], w, β, by simp [Builtin.clear_, run_underlying hu], Goes.same hm n, .tup _ _ rfl (by simp)⟩
  | false =>
   simp only [h0, cond_false] at he
   have h0 : len ≠ 0 := by simpa using h0
   have hq := (bif_none he).1
   replace he := (bif_none he).2
   simp only [Bool.and_eq_true, beq_iff_eq] at hq
   obtain ⟨rfl, hzl⟩ := hq
   split at he
   ·rename_i cs T hid
    have hc := (bif_none he).1
    replace he := (bif_none he).2
    simp only [Bool.and_eq_true] at hc
    have hle := nLb hc.1
    have hone := hc.2
    simp only [oMs, pMi] at he
    obtain ⟨m2, hset, rfl, rfl, rfl⟩ := he
    have ho : o = off := by omega
    subst ho
    have hmr := made_row (β := β) (kn := kn) g2 (g3 β kn) len
    have hrl : (replV z len).length = len * sz' := by rw [replV_length, hzl]
    obtain ⟨w', h1, h2⟩ := store_row (P := P) (off := o) (vs := replV z len) hm hid hmr (by simp [size_madeCells, replV_length]) (by rw [hrl]; exact hle) hone (by rw [hrl]; exact hset) n
    refine ⟨Nat.le_refl _, .tuple #[], w', β, ?_, h2, .tup _ _ rfl (by simp)⟩
    have hzc : Builtin.zeroCells zv.cells len = madeCells zv.cells (len * z.length) := by simp [Builtin.zeroCells, madeCells, g2]
    obtain ⟨l', rfl⟩ : ∃ l', len = l' + 1 := ⟨len - 1, by omega⟩
    simp [Builtin.clear_, run_underlying hu, g1, hzc, h1]
   ·cases he
 ·cases he
theorem mlift {o : Oper} {s : Sem Value} (h : MOk P β kn m w n v m' n' s) (he : execOp a.eval o = (do pure (Next.value (← s)))) :
  n ≤ n' ∧ ∃ x w' β', ((execOp a.eval o).run P w = .ok (.value x) w' ∨ ((execOp a.eval o).run P w = .ok .skip w' ∧ x = undef)) ∧ Goes β kn m w β' (KN kn n n') m' w' ∧ VR β' (KN kn n n') v x := by
 obtain ⟨h0, x, w', β', h1, h2, h3⟩ := h
 exact ⟨h0, x, w', β', .inl (by rw [he]; simp [h1]), h2, h3⟩
theorem evM_ok (ht : TR β kn t a N ds) (hm : MS β kn m w) (hn : n < n' → ¬ kn n) {o : Oper} {q : MO} (hr : resM P o = some q) (he : evM q t m n = some (v, m', n')) :
  n ≤ n' ∧ ∃ x w' β', ((execOp a.eval o).run P w = .ok (.value x) w' ∨ ((execOp a.eval o).run P w = .ok .skip w' ∧ x = undef)) ∧ Goes β kn m w β' (KN kn n n') m' w' ∧ VR β' (KN kn n n') v x := by
 have still : ∀ {s : Sem Value}, (m' = m ∧ n' = n ∧ ∃ y, s.run P w = .ok y w ∧ VR β kn v y) → execOp a.eval o = (do pure (Next.value (← s))) →
   n ≤ n' ∧ ∃ x w' β', ((execOp a.eval o).run P w = .ok (.value x) w' ∨ ((execOp a.eval o).run P w = .ok .skip w' ∧ x = undef)) ∧ Goes β kn m w β' (KN kn n n') m' w' ∧ VR β' (KN kn n n') v x := by
  rintro s ⟨rfl, rfl, y, h1, h2⟩ he
  exact mlift ⟨Nat.le_refl _, y, w, β, h1, Goes.same hm _, by rw [KN_same]; exact h2⟩ he
 unfold resM at hr
 split at hr
 ·rename_i ty x ho
  simp only [oBs, oMs] at hr
  obtain ⟨g, hg, sz, hs, rfl⟩ := hr
  exact still (load_ok ht hm hg hs he) (by simp [execOp, ho])
 ·rename_i ty x lo hi ho
  split at hr
  ·rename_i len e hu
   simp only [oMs] at hr
   obtain ⟨sz, hs, rfl⟩ := hr
   exact still (slArr_ok ht hm hu hs he) (by simp [execOp, ho])
  ·simp at hr
 ·rename_i ty ho
  simp only [oMs] at hr
  obtain ⟨z, hz, rfl⟩ := hr
  exact mlift (alloc_ok hm hn hz he) (by simp [execOp, ho])
 ·rename_i ty x ho
  simp only [oSi] at hr; subst hr
  exact mlift (box_ok (ty := ty) ht hm hn he) (by simp [execOp, ho])
 ·rename_i ty len ps ho
  simp only [oBs, oMs] at hr
  obtain ⟨e, he1, sz, hs, z, hz, l, hl, rfl⟩ := hr
  exact mlift (buildSl_ok ht hm hn he1 hs hz hl he) (by simp [execOp, ho])
 ·rename_i ty x y ho
  simp only [oMs] at hr
  obtain ⟨sz, hs, rfl⟩ := hr
  obtain ⟨rfl, rfl, w', h1, h2⟩ := store_ok ht hm hs he
  exact ⟨Nat.le_refl _, undef, w', β, .inr ⟨by simp [execOp, ho, h1], rfl⟩, h2, .tup _ _ rfl (by simp)⟩
 ·rename_i ty l c ho
  simp only [oBs, oMs] at hr
  obtain ⟨e, he1, sz, hs, z, hz, b, hb, rfl⟩ := hr
  exact mlift (makeSl_ok ht hm hn he1 hs hz hb he) (by simp [execOp, ho])
 ·rename_i c ho
  split at hr
  ·rename_i s x ty ty' hc ha hat
   simp only [oBs] at hr
   obtain ⟨e, he1, sz, hs, z, hz, b, hb, hr⟩ := hr
   have ha' : c.args = #[s, x] := by apply Array.ext'; simpa using ha
   have hat' : c.argTypes = #[ty, ty'] := by apply Array.ext'; simpa using hat
   cases htx : textT P ty' with
   | true =>
    simp only [htx, cond_true, oSi] at hr; subst hr
    have := append_ok (tt := o.type) ht hm hn he1 htx hs hz hb he
    refine mlift this ?_
    simp [execOp, ho, resolve, hc, ha', hat', invoke, builtin]
   | false =>
    simp only [htx, cond_false, oMs] at hr
    obtain ⟨kd, hkd, rfl⟩ := hr
    have := appZ_ok (tt := o.type) ht hm hn he1 hkd hs hz hb he
    refine mlift this ?_
    simp [execOp, ho, resolve, hc, ha', hat', invoke, builtin]
  ·rename_i x ty hc ha hat
   simp only [oBs, oMs] at hr
   obtain ⟨e, he1, sz, hs, z, hz, rfl⟩ := hr
   have ha' : c.args = #[x] := by apply Array.ext'; simpa using ha
   have hat' : c.argTypes = #[ty] := by apply Array.ext'; simpa using hat
   refine mlift (clr_ok (tt := o.type) ht hm he1 hs hz he) ?_
   simp [execOp, ho, resolve, hc, ha', hat', invoke, builtin]
  ·rename_i x l ty ty' hc ha hat
   have ha' : c.args = #[x, l] := by apply Array.ext'; simpa using ha
   have hat' : c.argTypes = #[ty, ty'] := by apply Array.ext'; simpa using hat
   split at hr
   ·rename_i e hu
    have hb := (bif_none hr).1
    replace hr := (bif_none hr).2
    simp only [oSi] at hr; subst hr
    refine mlift (uStr_ok (it := ty') (tt := o.type) ht hm hu hb he) ?_
    simp [execOp, ho, resolve, hc, ha', hat', invoke, builtin]
   ·simp at hr
  ·rename_i d s ty ty' hc ha hat
   simp only [oBs, oMs] at hr
   obtain ⟨e, he1, sz, hs, rfl⟩ := hr
   have ha' : c.args = #[d, s] := by apply Array.ext'; simpa using ha
   have hat' : c.argTypes = #[ty, ty'] := by apply Array.ext'; simpa using hat
   have := copy_ok (ty' := ty') (tt := o.type) ht hm he1 hs he
   refine mlift this ?_
   simp [execOp, ho, resolve, hc, ha', hat', invoke, builtin]
  ·simp at hr
 ·rename_i src dst x ho
  unfold resConv at hr
  split at hr
  ·rename_i ty hs hd
   split at hr
   ·rename_i k hsz
    simp only [oSi] at hr; subst hr
    exact still (toU_ok ht hm hs hd hsz he) (by simp [execOp, ho])
   ·simp at hr
  ·rename_i u hs hd
   have hc := (bif_none hr).1
   replace hr := (bif_none hr).2
   simp only [Bool.and_eq_true] at hc
   simp only [oSi] at hr; subst hr
   exact still (frU_ok ht hm hs hd hc.1 hc.2 he) (by simp [execOp, ho])
  ·rename_i e hs hd
   have hc := (bif_none hr).1
   replace hr := (bif_none hr).2
   simp only [oSi] at hr; subst hr
   exact mlift (toB_ok ht hm hn hs hd hc he) (by simp [execOp, ho])
  ·rename_i e hs hd
   have hc := (bif_none hr).1
   replace hr := (bif_none hr).2
   simp only [oSi] at hr; subst hr
   exact still (toS_ok ht hm hs hd hc he) (by simp [execOp, ho])
  ·simp at hr
 ·rename_i ty ho
  split at hr
  ·simp only [oSi] at hr; subst hr
   exact mlift (mkMap_ok (ty := ty) hm hn he) (by simp [execOp, ho])
  ·simp at hr
 ·rename_i ty x k y ho
  split at hr
  ·rename_i kt e hu
   split at hr
   ·rename_i hk
    simp only [oSi] at hr; subst hr
    obtain ⟨rfl, rfl, w', h1, h2⟩ := mapSet_ok ht hm hu hk he
    exact ⟨Nat.le_refl _, undef, w', β, .inr ⟨by simp [execOp, ho, h1], rfl⟩, h2, .tup _ _ rfl (by simp)⟩
   ·simp at hr
  ·simp at hr
 ·rename_i ty x k y ho
  split at hr
  ·rename_i kt e hu
   split at hr
   ·rename_i hk
    simp only [oSi] at hr; subst hr
    obtain ⟨rfl, rfl, w', h1, h2⟩ := mapSet_ok ht hm hu hk he
    exact ⟨Nat.le_refl _, undef, w', β, .inr ⟨by simp [execOp, ho, h1], rfl⟩, h2, .tup _ _ rfl (by simp)⟩
   ·simp at hr
  ·simp at hr
 ·rename_i ty x k ok ho
  split at hr
  ·rename_i kt e hu
   split at hr
   ·rename_i hk
    simp only [oBs, oMs] at hr
    obtain ⟨i, hi, z, hz, rfl⟩ := hr
    exact still (lookup_ok ht hm hu hk hi hz he) (by simp [execOp, ho])
   ·simp at hr
  ·simp at hr
 ·rename_i ty x ho
  split at hr
  ·rename_i hu
   simp only [oSi] at hr; subst hr
   exact mlift (range_ok ht hm hn hu he) (by simp [execOp, ho])
  ·simp at hr
 ·rename_i x ho
  simp only [oSi] at hr; subst hr
  exact mlift (next_ok (ty := o.type) ht hm he) (by simp [execOp, ho])
 ·simp at hr
end
end Go.Fm
end
