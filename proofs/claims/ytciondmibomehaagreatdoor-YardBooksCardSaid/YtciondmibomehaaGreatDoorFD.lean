import Derived.Test.YtciondmibomehaaGreatDoorFC
import Derived.LoopNIn
import Derived.RangeFuncLeaves
import Derived.RangeFuncRecord
import Derived.RecoverIn
set_option maxRecDepth 100000
set_option linter.unusedSectionVars false
set_option linter.unusedVariables false
set_option linter.unusedSimpArgs false
set_option linter.constructorNameAsVariable false
noncomputable section
namespace Go.Fm
open Go.RowKit (Below)
def Ex.out : Ex → Exit
 | .normal => .normal
 | .exit id => .exit id
 | .ret => .ret
variable [Ctx]
def FR1 (β : Nat → Nat × Nat) (kn : Nat → Prop) : FI → Deferred → Prop
 | .mark id, d => kn id ∧ d = { target := .collected (β id).1, args := #[] }
 | .dcall f vs, d => ∃ xs ys, d = { target := .fn (.func f) ys, args := xs } ∧ VA β kn vs (xs ++ ys)
inductive FR (β : Nat → Nat × Nat) (kn : Nat → Prop) : List FI → List Deferred → Prop
 | nil : FR β kn [] []
 | cons {i : FI} {d : Deferred} {k : List FI} {l : List Deferred} (h : FR1 β kn i d) (h' : FR β kn k l) : FR β kn (i :: k) (d :: l)
def RunOk (P : Program) (run : Run) : Prop :=
 ∀ N sk rk c rc s e k s', resCode P N sk rk c = some rc → (∀ key, rk = some key → Sites N key c) → run rc s = some (e, k, s') → Mo s.m s.n s'.m s'.n ∧
  ∀ (r : Option Nat) β kn a w ds (Q : Exit → Act → World → Prop), (rk.isSome = true → r = none) → MS β kn s.m w → TR β kn s.t a N ds → Fresh kn s.n s'.n →
   (∀ β' a' w' l, Goes β kn s.m w β' (KN kn s.n s'.n) s'.m w' → FR β' (KN kn s.n s'.n) k l → TR β' (KN kn s.n s'.n) s'.t a' N (l ++ ds) → Q e.out a' w') → c.wpIn (FW r) 0 P Q a w
def GL (w : World) : Prop := ∀ q ∈ Ctx.gl, w.heap[q.1]? = some q.2
def NSpec (P : Program) (f : FuncId) (F : List V → Option V) : Prop :=
 ∀ vs v, F vs = some v → ∀ β kn args w, VA β kn vs args → GL w → ∀ (r : Option Nat) (o : Oper) (a : Act) (next : Act → World → Prop) (Q : Exit → Act → World → Prop),
  (∀ x w', VR β kn v x → Below w.heap.size w w' → next (a.put o.dst x) w') → o.uponIn (FW r) 0 P a next Q ((callFunc f args).run P w)
def FnOk (P : Program) (f : FuncId) (fn : RFn) : Prop :=
 ∃ gf c sk rk, P.funcs[f]? = some gf ∧ gf.body = some c ∧ (gf.name == "runtime.NumGoroutine") = false ∧ gf.ntmps = fn.nt ∧ resCode P fn.nt sk rk c = some fn.body ∧ (∀ key, rk = some key → Sites fn.nt key c) ∧ resRes P gf.results.toList = some fn.res
def MSpec (P : Program) (f : FuncId) (F : List V → Mem → Nat → Option (V × Mem × Nat)) : Prop :=
 ∀ vs m n v m' n', F vs m n = some (v, m', n') → Mo m n m' n' ∧ ∀ β kn args w, MS β kn m w → VA β kn vs args → Fresh kn n n' →
  ∀ (r : Option Nat) (o : Oper) (a : Act) (next : Act → World → Prop) (Q : Exit → Act → World → Prop),
   (∀ β' x w', Goes β kn m w β' (KN kn n n') m' w' → VR β' (KN kn n n') v x → next (a.put o.dst x) w') → o.uponIn (FW r) 0 P a next Q ((callFunc f args).run P w)
def DFnOk (P : Program) (f : FuncId) (fn : DFn) : Prop :=
 ∃ gf id ops c sk, P.funcs[f]? = some gf ∧ gf.body = some (.seq (.region id ops false) c) ∧ (gf.name == "runtime.NumGoroutine") = false ∧ gf.ntmps = fn.nt ∧ resRec P fn.nt ops.toList = some fn.pre ∧ resCode P fn.nt sk none c = some fn.body ∧
  resRes P gf.results.toList = some fn.res
def SiteOk (P : Program) (key : Nat) (st : Site) : Prop :=
 ∃ ps a b sk, CtxV.site key = some (ps, a, b, st.nt) ∧ ps.toList = st.ps ∧ (∀ p ∈ st.ps, p < st.nt) ∧ resCode P st.nt sk none a = some st.asg ∧ resCode P st.nt sk none b = some st.body
structure EnvOk (P : Program) (E : Env') : Prop where
 nat : ∀ f F, E.nat.get f = some F → NSpec P f F
 fns : ∀ f fn, E.fns.get f = some fn → FnOk P f fn
 sites : ∀ key st, E.sites.get key = some st → SiteOk P key st
 mnat : ∀ f F, E.mnat.get f = some F → MSpec P f F
 dfns : ∀ f fn, E.dfns.get f = some fn → DFnOk P f fn
 mix : P.follows .mixedOrders = true
section
variable {P : Program} {β β' : Nat → Nat × Nat} {kn kn' : Nat → Prop} {t : Tr 3 V} {a : Act} {N : Nat} {ds : List Deferred} {m m' : Mem} {w w' : World} {n n' : Nat} {v : V}
theorem goes_below (hm : MS β kn m w) (hb : Below w.heap.size w w') (n : Nat) : Goes β kn m w β (KN kn n n) m w' := by
 rw [KN_same]
 refine ⟨Ext.refl _ _, ⟨hb.os, hb.tape, hb.output, hb.size, fun b h _ => hb.block b h, fun id c h => .inl ⟨id, c, h, rfl⟩⟩, ⟨fun id b e => ?_, hm.inj, fun q hq => ⟨by rw [hb.block _ (heap_lt (hm.gl q hq).1)]; exact (hm.gl q hq).1, (hm.gl q hq).2⟩⟩⟩
 obtain ⟨h1, h2⟩ := hm.blk id b e
 exact ⟨h1, by rw [hb.block _ h2.lt]; exact h2⟩
theorem argT_ok : ∀ {vs : List V} {i : Nat} {t t' : Tr 3 V}, argT i vs t = some t' → ∀ j, t'.get j = if i ≤ j ∧ j < i + vs.length then vs[j - i]? else t.get j
 | [], i, t, t', h, j => by
  simp [argT] at h; subst h
  rw [if_neg (by simp)]
 | v :: r, i, t, t', h, j => by
  simp only [argT, oBs] at h
  obtain ⟨t1, h1, h2⟩ := h
  rw [argT_ok h2 j, Tr.get_set h1]
  simp only [List.length_cons]
  by_cases hj : j = i
  ·subst hj
   rw [if_neg (by omega), if_pos rfl, if_pos (by omega)]
   simp
  ·rw [if_neg hj]
   by_cases hij : i + 1 ≤ j ∧ j < i + 1 + r.length
   ·rw [if_pos hij, if_pos (by omega)]
    have : j - i = j - (i + 1) + 1 := by omega
    rw [this]; simp
   ·rw [if_neg hij, if_neg (by omega)]
theorem args_TR {vs : List V} {xs : Array Value} (h : VA β kn vs xs) {t : Tr 3 V} (ht : argT 0 vs .nil = some t) {nt : Nat} (hle : vs.length ≤ nt) : TR β kn t { tmps := xs ++ Array.replicate (nt - xs.size) undef, defers := [] } nt [] := by
 refine ⟨fun i v hv => ?_, by simp [h.1]; omega, rfl⟩
 rw [argT_ok ht] at hv
 by_cases hi : 0 ≤ i ∧ i < 0 + vs.length
 ·rw [if_pos hi] at hv
  have hlt : i < xs.size := by rw [h.1]; omega
  have e : (xs ++ Array.replicate (nt - xs.size) undef).getD i undef = xs[i] := by
   simp [Array.getD_eq_getD_getElem?, Array.getElem?_append_left hlt, hlt]
  rw [e]
  exact h.2 i v _ (by simpa using hv) (by simp [hlt])
 ·rw [if_neg hi] at hv; simp [Tr.get_nil] at hv
def resF (tmps : Array Value) : ResultVar → Sem Value
 | .tmp t => pure (tmps.getD t undef)
 | .cell x ty => do loadVar ty (← asAddr (tmps.getD x undef))
theorem res_ok (hm : MS β kn m w) (ht : TR β kn t a N ds) : ∀ {l : List ResultVar} {rr : List RR} {vs : List V}, resRes P l = some rr → evRes t m rr = some vs →
  ∃ xs : List Value, (l.mapM (resF a.tmps)).run P w = .ok xs w ∧ xs.length = vs.length ∧
   ∀ (i : Nat) (v : V) (x : Value), vs[i]? = some v → xs[i]? = some x → VR β kn v x
 | [], rr, vs, hr, he => by
  simp [resRes] at hr; subst hr
  simp [evRes] at he; subst he
  exact ⟨[], by simp, rfl, by simp⟩
 | .tmp k :: l, rr, vs, hr, he => by
  simp only [resRes, oMs] at hr
  obtain ⟨rr', h1, rfl⟩ := hr
  simp only [evRes, oMs] at he
  obtain ⟨vs', h2, rfl⟩ := he
  obtain ⟨xs, h3, h4, h5⟩ := res_ok hm ht h1 h2
  refine ⟨a.tmps.getD k undef :: xs, by simp only [List.mapM_cons, resF, Sem.run_bind, Sem.run_pure, Result.andThen_ok, h3], by simp [h4], fun i v x e1 e2 => ?_⟩
  cases i with
  | zero =>
   simp only [List.getElem?_cons_zero, oSi] at e1 e2; subst e1 e2
   exact val_ok ht (.tmp k)
  | succ i => exact h5 i v x (by simpa using e1) (by simpa using e2)
 | .cell k ty :: l, rr, vs, hr, he => by
  simp only [resRes, oBs, oMs] at hr
  obtain ⟨g, hg, sz, hs, rr', h1, rfl⟩ := hr
  simp only [evRes, oBs, oMs] at he
  obtain ⟨⟨v0, m0, n0⟩, h0, vs', h2, rfl⟩ := he
  obtain ⟨xs, h3, h4, h5⟩ := res_ok hm ht h1 h2
  have hx := val_ok ht (.tmp k)
  have hld := load_ok (P := P) (x := .tmp k) ht hm hg hs h0
  obtain ⟨_, _, y, h6, h7⟩ := hld
  have hex : ∃ b off, a.tmps.getD k undef = .pointer (some ⟨b, off, none⟩) := by
   simp only [evM] at h0
   split at h0
   ·rename_i id off hv
    have := val_ok ht (.tmp k)
    simp only [resX] at this
    rw [hv] at this
    generalize hq : a.eval (.tmp k) = q at this
    cases this with
    | ptr id off hk => exact ⟨_, _, hq⟩
   ·simp at h0
  obtain ⟨b, off, hp⟩ := hex
  have h8 : (loadVar ty ⟨b, off, none⟩).run P w = .ok y w := by
   have : a.eval (.tmp k) = .pointer (some ⟨b, off, none⟩) := hp
   rw [this] at h6
   simpa [Instr.loadAt, Instr.sureAddr] using h6
  refine ⟨y :: xs, ?_, by simp [h4], fun i v x e1 e2 => ?_⟩
  ·have h9 : (resF a.tmps (.cell k ty)).run P w = .ok y w := by
    simp only [resF, Sem.run_bind, hp, asAddr, Sem.run_pure, Result.andThen_ok, h8]
   simp only [List.mapM_cons, Sem.run_bind, h9, Sem.run_pure, Result.andThen_ok, h3]
  ·cases i with
   | zero => simp at e1 e2; subst e1 e2; exact h7
   | succ i => exact h5 i v x (by simpa using e1) (by simpa using e2)
theorem results_ok (hm : MS β kn m w) (ht : TR β kn t a N ds) {fn : Func} {rr : List RR} {vs : List V} (hr : resRes P fn.results.toList = some rr) (he : evRes t m rr = some vs) :
  ∃ x, (results fn a.tmps).run P w = .ok x w ∧ VR β kn (oneV vs) x := by
 obtain ⟨xs, h1, h2, h3⟩ := res_ok hm ht hr he
 have h4 : (fn.results.mapM (resF a.tmps)).run P w = .ok xs.toArray w := by
  rw [Array.mapM_eq_mapM_toList]
  simp only [Sem.run_map, h1]
  rfl
 refine ⟨if h : xs.toArray.size = 1 then xs.toArray[0] else .tuple xs.toArray, ?_, ?_⟩
 ·have e : results fn a.tmps = (do let vs ← fn.results.mapM (resF a.tmps); pure (if h : vs.size = 1 then vs[0] else .tuple vs)) := rfl
  rw [e, Sem.run_bind, h4]
  rfl
 ·match vs, xs, h2, h3 with
  | [v], [x], _, h3 => simp [oneV]; exact h3 0 v x rfl rfl
  | [], [], _, h3 => simp [oneV]; exact .tup [] #[] rfl (by simp)
  | v :: v' :: vs, x :: x' :: xs, h2, h3 =>
   simp [oneV]
   exact .tup _ _ (by simpa using h2) (fun i v x e1 e2 => h3 i v x e1 (by simpa using e2))
theorem run_enter {f : FuncId} {gf : Func} {c : Code} (hf : P.funcs[f]? = some gf) (hb : gf.body = some c) (hname : (gf.name == "runtime.NumGoroutine") = false) (args : Array Value) (w : World) :
  (callFunc f args).run P w = .ok (.enter f args) w := by
 have hn : ¬ gf.name = "runtime.NumGoroutine" := by simpa using hname
 simp [callFunc, hf, hb, hn]
theorem VA.mono (he : Ext β kn β' kn') {vs : List V} {xs : Array Value} (h : VA β kn vs xs) : VA β' kn' vs xs := ⟨h.1, fun i v x a b => (h.2 i v x a b).mono he⟩
theorem FR.mono (he : Ext β kn β' kn') {k : List FI} {l : List Deferred} (h : FR β kn k l) : FR β' kn' k l := by
 induction h with
 | nil => exact .nil
 | cons h _ ih =>
  refine .cons ?_ ih
  rename_i i d _ _ _
  cases i with
  | mark id => obtain ⟨h1, h2⟩ := h; exact ⟨(he id h1).1, by rw [(he id h1).2]; exact h2⟩
  | dcall f vs => obtain ⟨xs, ys, h1, h2⟩ := h; exact ⟨xs, ys, h1, h2.mono he⟩
theorem FR.append {k1 k2 : List FI} {l1 l2 : List Deferred} (h1 : FR β kn k1 l1) (h2 : FR β kn k2 l2) : FR β kn (k1 ++ k2) (l1 ++ l2) := by
 induction h1 with
 | nil => exact h2
 | cons h _ ih => exact .cons h ih
theorem setLoop_ok (hm : MS β kn m w) {id : Nat} {st : LoopState} {pend : Option Jmp} (hs : setLoop m id st pend = some m') (n : Nat) :
  ∃ key st0 p0 t db r, m.get id = some (.loop key st0 p0 t db) ∧ w.heap[(β id).1]? = some (.loop r) ∧ r.state = st0 ∧ r.pending = p0.map Jmp.code ∧ Mo m n m' n ∧
   ∀ r', r' = { r with state := st, pending := pend.map Jmp.code } → Goes β kn m w β (KN kn n n) m' (w.putObj (β id).1 (.loop r')) := by
 unfold setLoop at hs
 split at hs
 ·rename_i key st0 p0 t db hid
  obtain ⟨_, r, h1, h2, h3, h4, h5, h6, h7⟩ := hm.blk id _ hid
  refine ⟨key, st0, p0, t, db, r, hid, h1, h2, h3, Mo.set hs (by rw [hid]; rfl), fun r' hr' => ?_⟩
  subst hr'
  exact goes_putO hm hid (b' := .loop key st pend t db) (o' := .loop { r with state := st, pending := pend.map Jmp.code }) (show BR β kn (β id).2 (.loop key st pend t db) _ from ⟨{ r with state := st, pending := pend.map Jmp.code }, rfl, rfl, rfl, h4, h5, h6, h7⟩) hs n
 ·simp at hs
theorem putArgs_ok : ∀ {ps : List Nat} {vs : List V} {t t' : Tr 3 V}, putArgs t ps vs = some t' → ∀ {xs : List Value} {tmps : Array Value}, xs.length = vs.length → (∀ (i : Nat) (v : V) (x : Value), vs[i]? = some v → xs[i]? = some x → VR β kn v x) →
  (∀ p ∈ ps, p < tmps.size) → (∀ i v, t.get i = some v → VR β kn v (tmps.getD i undef)) → ps.length = vs.length ∧
  ((ps.zip xs).foldl (fun tmps (q : Nat × Value) => tmps.setIfInBounds q.1 q.2) tmps).size = tmps.size ∧ ∀ i v, t'.get i = some v → VR β kn v (((ps.zip xs).foldl (fun tmps (q : Nat × Value) => tmps.setIfInBounds q.1 q.2) tmps).getD i undef)
 | [], [], t, t', h, xs, tmps, _, _, _, ht => by simp [putArgs] at h; subst h; exact ⟨rfl, by simp, by simpa using ht⟩
 | [], _ :: _, _, _, h, _, _, _, _, _, _ => by simp [putArgs] at h
 | _ :: _, [], _, _, h, _, _, _, _, _, _ => by simp [putArgs] at h
 | p :: ps, v :: vs, t, t', h, [], tmps, hl, _, _, _ => by simp at hl
 | p :: ps, v :: vs, t, t', h, x :: xs, tmps, hl, hx, hp, ht => by
  simp only [putArgs, oBs] at h
  obtain ⟨t1, h1, h2⟩ := h
  have hplt := hp p (by simp)
  obtain ⟨g1, g2, g3⟩ := putArgs_ok h2 (xs := xs) (tmps := tmps.setIfInBounds p x) (by simpa using hl) (fun i v x a b => hx (i + 1) v x (by simpa using a) (by simpa using b)) (fun q hq => by simpa using hp q (by simp [hq])) (fun i u hu => by
   rw [Tr.get_set h1] at hu
   by_cases hi : i = p
   ·subst hi
    rw [if_pos rfl] at hu; injection hu with hu; subst hu
    have : (tmps.setIfInBounds i x).getD i undef = x := by simp [Array.getD_eq_getD_getElem?, hplt]
    rw [this]; exact hx 0 v x rfl rfl
   ·rw [if_neg hi] at hu
    have : (tmps.setIfInBounds p x).getD i undef = tmps.getD i undef := by simp only [Array.getD_eq_getD_getElem?, Array.getElem?_setIfInBounds_ne (Ne.symm hi)]
    rw [this]; exact ht i u hu)
  exact ⟨by simp [g1], by simpa using g2, by simpa using g3⟩
theorem round_ok {E : Env'} (hE : EnvOk P E) {run : Run} (hrun : RunOk P run) {id : Nat} {vs : List V} (he : round E run id vs m n = some (v, m', n')) : Mo m n m' n' ∧ ∀ β kn args w, MS β kn m w → VA β kn vs args → kn id → Fresh kn n n' →
  ∀ (r : Option Nat) (o : Oper) (a : Act) (next : Act → World → Prop) (Q : Exit → Act → World → Prop),
   (∀ β' x w', Goes β kn m w β' (KN kn n n') m' w' → VR β' (KN kn n n') v x → next (a.put o.dst x) w') → o.uponIn (FW r) 0 P a next Q ((Instr.yield (β id).1 args).run P w) := by
 unfold round at he
 split at he
 ·rename_i key t db hid
  simp only [oBs] at he
  obtain ⟨st, hst, t', ht', ⟨e1, k1, s1⟩, hr1, he⟩ := he
  split at he
  ·rename_i s1' hpat
   injection hpat with hp1 hp2; injection hp2 with hp2 hp3; subst hp1 hp2 hp3
   split at he
   ·rename_i key1 t1 db1 hid1
    simp only [oBs] at he
    obtain ⟨m2, hm2, ⟨e0, k2, s2⟩, hr2, he⟩ := he
    split at he
    ·rename_i e s2' hpat2
     injection hpat2 with hq1 hq2; injection hq2 with hq2 hq3; subst hq1 hq2 hq3
     simp only [oMs, pMi] at he
     obtain ⟨m4, hm4, rfl, rfl, rfl⟩ := he
     obtain ⟨ps, ca, cb, sk, hctx, hps, hpl, hra, hrb⟩ := hE.sites key st hst
     obtain ⟨mo1, p1⟩ := hrun st.nt sk none ca st.asg _ _ _ _ hra (fun _ h => by cases h) hr1
     obtain ⟨mo3, p3⟩ := hrun st.nt sk none cb st.body _ _ _ _ hrb (fun _ h => by cases h) hr2
     have mo2 : Mo s1.m s1.n m2 s1.n := Mo.set (by unfold setLoop at hm2; rw [hid1] at hm2; exact hm2) (by rw [hid1]; rfl)
     have mo4 : Mo s2.m s2.n m4 s2.n := by
      unfold setLoop at hm4
      split at hm4
      ·rename_i hg; exact Mo.set hm4 (by rw [hg]; rfl)
      ·simp at hm4
     refine ⟨mo1.trans (mo2.trans (mo3.trans mo4)), fun β kn args w hm hva hkid hf r o a next Q hnext => ?_⟩
     have hle1 := mo1.1; have hle3 := mo3.1
     dsimp only at hle1 hle3
     obtain ⟨_, rr, h1, h2, h3, h4, h5, h6, h7⟩ := hm.blk id _ hid
     have h4' := h4
     rw [hctx] at h4'
     simp only [oSi, pMi] at h4'
     obtain ⟨e1, e2, e3, e4⟩ := h4'
     have hlen := putArgs_ok (β := β) (kn := kn) ht' (xs := args.toList) (tmps := rr.tmps) (by simpa using hva.1) (fun i v x a b => hva.2 i v x a (by simpa using b)) (by rw [← e4]; exact hpl) h5
     have hsz : args.size = rr.params.size := by
      rw [← e1, hva.1, ← hlen.1, ← hps]; simp
     rw [run_yield h1 hsz]
     refine ⟨fun hd => by simp [FW] at hd, roundIn_of_wpIn trivial ?_⟩
     have hzip : (rr.params.zip args).foldl (fun tmps (t, a) => tmps.setIfInBounds t a) rr.tmps = (st.ps.zip args.toList).foldl (fun tmps (q : Nat × Value) => tmps.setIfInBounds q.1 q.2) rr.tmps := by
      rw [← hps, e1, ← Array.foldl_toList, Array.toList_zip]
     rw [hzip, ← e2]
     have htr0 : TR β kn t' { tmps := (st.ps.zip args.toList).foldl (fun tmps (q : Nat × Value) => tmps.setIfInBounds q.1 q.2) rr.tmps, defers := [] } st.nt [] := ⟨hlen.2.2, by rw [e4]; exact hlen.2.1, rfl⟩
     show ca.wpIn (FW (some (β id).1)) 0 P _ _ w
     refine p1 (some (β id).1) β kn _ w [] _ (fun h => by cases h) hm htr0 (hf.left (by omega)) fun β1 a1 w1 l1 g1 fr1 t1 => ?_
     cases fr1
     dsimp only at g1 t1
     obtain ⟨key', st0, p0, t2, db2, r1, q1, q2, q3, q4, _, q5⟩ := setLoop_ok g1.ms hm2 s1.n
     rw [hid1] at q1
     simp only [oSi, B.loop.injEq] at q1
     obtain ⟨_, q6, q7, _, _⟩ := q1
     have hβ : β1 id = β id := (g1.ext id hkid).2
     have g2 := q5 { r1 with state := .busy } (by rw [← q7] at q4; simp only [Option.map_none] at q4; rw [Option.map_none, ← q4])
     rw [hβ] at q2 g2
     refine ⟨_, run_beginRound q2 (by rw [q3, ← q6]), ?_⟩
     have hf3 : Fresh (KN kn n s1.n) s1.n s2.n := hf.right hle1
     rw [← e3]
     rw [KN_same] at g2
     refine p3 (some (β id).1) β1 _ a1 _ [] _ (fun h => by cases h) g2.ms (by simpa using t1) hf3 fun β3 a3 w3 l3 g3 _ t3 => ?_
     dsimp only at g3 t3
     obtain ⟨key'', st0', p0', t4, db4, r3, u1, u2, u3, u4, _, u5⟩ := setLoop_ok g3.ms hm4 s2.n
     have hβ3 : β3 id = β id := by rw [(g3.ext id (g1.ext id hkid).1).2, hβ]
     rw [hβ3] at u2 u5
     have hall : ∀ w4, Goes β3 (KN (KN kn n s1.n) s1.n s2.n) s2.m w3 β3 (KN (KN (KN kn n s1.n) s1.n s2.n) s2.n s2.n) m4 w4 → Goes β kn m w β3 (KN kn n s2.n) m4 w4 := fun w4 g4 => by
      rw [KN_same, KN_KN hle1 hle3] at g4
      rw [KN_KN hle1 hle3] at g3
      exact g1.trans (g2.trans (g3.trans g4))
     cases e0 with
     | normal =>
      have g4 := u5 { r3 with state := .ready, pending := none } rfl
      exact ⟨_, _, run_endRound none u2, hnext β3 (.bool true) _ (hall _ g4) (.bool _)⟩
     | exit j =>
      have g4 := u5 { r3 with state := .done, pending := some (.exit j) } rfl
      exact ⟨_, _, run_endRound (some (.exit j)) u2, hnext β3 (.bool false) _ (hall _ g4) (.bool _)⟩
     | ret =>
      have g4 := u5 { r3 with state := .done, pending := some .ret } rfl
      exact ⟨_, _, run_endRound (some .ret) u2, hnext β3 (.bool false) _ (hall _ g4) (.bool _)⟩
    ·simp at he
   ·simp at he
  ·simp at he
 ·simp at he
theorem opsS_ok {ops : Array Oper} {c0 : Frame} {cs : List Frame} (hc0 : c0.mode = .returning) {call : CE} (Q : Exit → Act → List Frame → World → Prop) : ∀ {l : List Oper} {rl : List ROp} {k : Nat} {s s' : St}, (∀ j o, l[j]? = some o → ops[k + j]? = some o) → resRec P N l = some rl → runOps call rl s = some s' →
  s'.m = s.m ∧ s'.n = s.n ∧ ∀ β kn a w ds, TR β kn s.t a N ds → (∀ a', TR β kn s'.t a' N ds → Q .normal a' (c0 :: cs) w) → wpOpsSIn (FW none) 0 P ops Q (List.range' k l.length) a (c0 :: cs) w
 | [], rl, k, s, s', _, hr, he => by
  simp [resRec] at hr; subst hr
  simp [runOps] at he; subst he
  exact ⟨rfl, rfl, fun β kn a w ds ht hQ => hQ a ht⟩
 | o :: l, rl, k, s, s', hl, hr, he => by
  simp only [resRec] at hr
  have hg := (bif_none hr).1
  replace hr := (bif_none hr).2
  simp only [oBs, oMs] at hr
  obtain ⟨d, hd, q, hq, rl', h2, rfl⟩ := hr
  have hg : o.guard = none := by simpa using hg
  simp only [runOps] at he
  split at he
  ·rename_i s1 hs1
   have hl' : ∀ j o, l[j]? = some o → ops[k + 1 + j]? = some o := fun j o h => by have := hl (j + 1) o (by simpa using h); simpa [Nat.add_assoc, Nat.add_comm 1 j] using this
   obtain ⟨e1, e2, p2⟩ := opsS_ok hc0 Q hl' h2 he
   have hp : ∃ pq, q = .p pq ∧ (resP P o = some pq ∨ (pq = .mv (.c .nili) ∧ ∃ c, o.op = .call c ∧ c.callee = .builtin .recover)) := by
    split at hq
    ·rename_i c hc
     split at hq
     ·rename_i hb
      simp only [oSi] at hq; subst hq
      exact ⟨_, rfl, .inr ⟨rfl, c, hc, hb⟩⟩
     ·simp only [oMs] at hq
      obtain ⟨pq, h, rfl⟩ := hq
      exact ⟨pq, rfl, .inl h⟩
    ·simp only [oMs] at hq
     obtain ⟨pq, h, rfl⟩ := hq
     exact ⟨pq, rfl, .inl h⟩
   obtain ⟨pq, rfl, hp⟩ := hp
   simp only [runOp, doOp, evOp, oBs, oMs] at hs1
   obtain ⟨⟨v, m1, n1⟩, ⟨v', hev, hvv⟩, t1, hput, rfl⟩ := hs1
   simp only [pMi] at hvv
   obtain ⟨rfl, rfl, rfl⟩ := hvv
   refine ⟨e1, e2, fun β kn a w ds ht hQ => ?_⟩
   have h0 : ops[k]? = some o := by simpa using hl 0 o rfl
   rw [List.length_cons, List.range'_succ]
   simp only [wpOpsSIn, h0]
   refine ⟨fun _ _ => trivial, ?_⟩
   have hw : Region.wanted o (yielded ops a.tmps) = true := by simp [Region.wanted, hg]
   rw [if_pos hw]
   rcases hp with hp | ⟨rfl, c, hc, hb⟩
   ·obtain ⟨x, hx, hv⟩ := evP_ok (P := P) ht hp hev
    rw [hx w]
    exact p2 β kn _ w ds (ht.put hd hv hput) hQ
   ·have hrun : (execOp a.eval o).run P w = .ok .recover w := by
     simp [execOp, hc, resolve, hb, invoke, builtin]
    rw [hrun]
    have hrec : recoverD (c0 :: cs) = none := by simp [recoverD, hc0]
    simp only [hrec]
    simp [evP, val] at hev; subst hev
    exact p2 β kn _ w ds (ht.put hd .nili hput) hQ
  ·simp at he
theorem dcall_ok {E : Env'} (hE : EnvOk P E) {run : Run} (hrun : RunOk P run) {f : FuncId} {vs : List V} (he : dcall E run f vs m n = some (m', n')) : Mo m n m' n' ∧ (∃ gf c, P.funcs[f]? = some gf ∧ gf.body = some c ∧ (gf.name == "runtime.NumGoroutine") = false) ∧
  ∀ β kn args w, MS β kn m w → VA β kn vs args → Fresh kn n n' → ∀ R : Ending → FrameMode → World → Prop, (∀ β' v w', Goes β kn m w β' (KN kn n n') m' w' → R (.returned v) .returning w') → CallsDIn (FW none) 0 P f args .returning w R := by
 unfold dcall at he
 split at he
 ·rename_i fn hfn
  obtain ⟨gf, id, ops, c, sk, g1, g2, g3, g4, g5, g6, g7⟩ := hE.dfns f fn hfn
  unfold runDD at he
  have hle := nLb (bif_none he).1
  replace he := (bif_none he).2
  simp only [oBs] at he
  obtain ⟨t, ht, s1, hpre, ⟨e, k, s⟩, hr, he⟩ := he
  have hes : (e = .normal ∨ e = .ret) ∧ k = [] ∧ (evRes s.t s.m fn.res).map (fun _ => (s.m, s.n)) = some (m', n') := by
   cases e with
   | exit i => simp at he
   | normal => cases k with
    | nil => exact ⟨.inl rfl, rfl, he⟩
    | cons _ _ => simp at he
   | ret => cases k with
    | nil => exact ⟨.inr rfl, rfl, he⟩
    | cons _ _ => simp at he
  obtain ⟨hes, rfl, hx⟩ := hes
  simp only [oMs, pMi] at hx
  obtain ⟨l, hl, hq1, hq2⟩ := hx
  subst hq1 hq2
  have hops := fun (c0 : Frame) (cs : List Frame) (hc0 : c0.mode = .returning) (Q : Exit → Act → List Frame → World → Prop) => opsS_ok (P := P) (N := fn.nt) (ops := ops) (cs := cs) hc0 Q (l := ops.toList) (k := 0) (fun j o h => by simpa using h) g5 hpre
  obtain ⟨em, en, _⟩ := hops { (default : Frame) with mode := .returning } [] rfl (fun _ _ _ _ => True)
  dsimp only at em en
  obtain ⟨mo, p⟩ := hrun fn.nt sk none c fn.body s1 e [] s g6 (fun _ h => by cases h) hr
  rw [em, en] at mo
  refine ⟨mo, ⟨gf, _, g1, g2, g3⟩, fun β kn args w hm hva hf R hR => ?_⟩
  refine callsDIn_of_wpSIn g1 g2 trivial fun c0 cs hc0 => wpSIn_seq (wpSIn_region ?_)
  have h := (hops c0 cs hc0 (Exit.thenS (c.wpSIn (FW none) 0 P (bodyPostS P gf c0 cs R)) (bodyPostS P gf c0 cs R))).2.2 β kn { tmps := args ++ Array.replicate (gf.ntmps - args.size) undef, defers := [] } w [] (by rw [g4]; exact args_TR hva ht hle)
  rw [List.range_eq_range', ← Array.length_toList]
  refine h fun a' htr => ?_
  show c.wpSIn (FW none) 0 P (bodyPostS P gf c0 cs R) a' (c0 :: cs) w
  refine wpSIn_of_wpIn rfl (p none β kn a' w [] _ (fun h => by cases h) (by rw [em]; exact hm) htr (by rw [en]; exact hf) fun β' a2 w' l2 hg hfr htr2 => ?_)
  cases hfr
  rw [em, en] at hg
  rw [en] at htr2
  obtain ⟨x, hx1, hx2⟩ := results_ok hg.ms htr2 g7 hl
  have hd : a2.defers = [] := by simpa using htr2.defers
  have hc' : (c0 :: cs) = { c0 with mode := .returning } :: cs := by rw [← hc0]
  rcases hes with rfl | rfl
  ·exact ⟨hd, .returning, hc', x, hx1, hR β' x w' hg⟩
  ·exact ⟨hd, .returning, hc', x, hx1, hR β' x w' hg⟩
 ·split at he
  ·rename_i fn hfn
   obtain ⟨gf, c, sk, rk, g1, g2, g3, g4, g5, g5', g6⟩ := hE.fns f fn hfn
   unfold runD at he
   have hle := nLb (bif_none he).1
   replace he := (bif_none he).2
   simp only [oBs] at he
   obtain ⟨t, ht, ⟨e, k, s⟩, hr, he⟩ := he
   have hes : (e = .normal ∨ e = .ret) ∧ k = [] ∧ (evRes s.t s.m fn.res).map (fun _ => (s.m, s.n)) = some (m', n') := by
    cases e with
    | exit i => simp at he
    | normal => cases k with
     | nil => exact ⟨.inl rfl, rfl, he⟩
     | cons _ _ => simp at he
    | ret => cases k with
     | nil => exact ⟨.inr rfl, rfl, he⟩
     | cons _ _ => simp at he
   obtain ⟨hes, rfl, hx⟩ := hes
   simp only [oMs, pMi] at hx
   obtain ⟨l, hl, rfl, rfl⟩ := hx
   obtain ⟨mo, p⟩ := hrun fn.nt sk rk c fn.body _ e [] s g5 g5' hr
   refine ⟨mo, ⟨gf, c, g1, g2, g3⟩, fun β kn args w hm hva hf R hR => ?_⟩
   refine (callsDIn_of_wp (R := fun e w' => R e .returning w') g1 g2 trivial (p none β kn _ w [] _ (fun _ => rfl) hm (by rw [g4]; exact args_TR hva ht hle) hf fun β' a' w' l' hg hfr htr => ?_)).mono fun e u' w' h => by rw [h.1]; exact h.2
   cases hfr
   obtain ⟨x, hx1, hx2⟩ := results_ok hg.ms htr g6 hl
   have hd : a'.defers = [] := by simpa using htr.defers
   rcases hes with rfl | rfl
   ·exact ⟨hd, x, hx1, hR β' x w' hg⟩
   ·exact ⟨hd, x, hx1, hR β' x w' hg⟩
  ·cases he
theorem leaveF_mo {E : Env'} (hE : EnvOk P E) {run : Run} (hrun : RunOk P run) : ∀ {k : List FI} {m m' : Mem} {n n' : Nat}, leaveF E run k m n = some (m', n') → Mo m n m' n'
 | [], m, m', n, n', h => by
  simp only [leaveF, oSi, pMi] at h
  obtain ⟨rfl, rfl⟩ := h; exact Mo.refl _ _
 | .mark id :: k, m, m', n, n', h => by
  unfold leaveF at h
  split at h
  ·rename_i hid
   simp only [oBs] at h
   obtain ⟨m1, h1, h2⟩ := h
   exact (Mo.set h1 (by rw [hid]; rfl)).trans (leaveF_mo hE hrun h2)
  ·cases h
 | .dcall f vs :: k, m, m', n, n', h => by
  unfold leaveF at h
  simp only [oBs] at h
  obtain ⟨⟨m1, n1⟩, h1, h2⟩ := h
  exact (dcall_ok hE hrun h1).1.trans (leaveF_mo hE hrun h2)
theorem leaves_ok {E : Env'} (hE : EnvOk P E) {run : Run} (hrun : RunOk P run) {gf : Func} {tmps : Array Value} {R : Ending → World → Prop} : ∀ {k : List FI} {β : Nat → Nat × Nat} {kn : Nat → Prop} {m m' : Mem} {n n' : Nat} {w : World} {l : List Deferred}, leaveF E run k m n = some (m', n') → MS β kn m w → FR β kn k l → Fresh kn n n' →
  (∀ β' w', Goes β kn m w β' (KN kn n n') m' w' → ∃ v, (results gf tmps).run P w' = .ok v w' ∧ R (.returned v) w') → LeavesInM (FW none) 0 P gf tmps R l .returning w
 | [], β, kn, m, m', n, n', w, l, h, hm, hfr, hf, hR => by
  simp only [leaveF, oSi, pMi] at h
  obtain ⟨rfl, rfl⟩ := h
  cases hfr
  exact hR β w (Goes.same hm n)
 | .mark id :: k, β, kn, m, m', n, n', w, l, h, hm, hfr, hf, hR => by
  unfold leaveF at h
  split at h
  ·rename_i hid
   simp only [oBs] at h
   obtain ⟨m1, h1, h2⟩ := h
   cases hfr with
   | cons hd hfr =>
   obtain ⟨_, rfl⟩ := hd
   have hb : w.heap[(β id).1]? = some (.deferred (some [])) := (hm.blk id _ hid).2
   have g1 := goes_lose hm hid h1 (w' := w.putObj (β id).1 (.deferred none)) rfl rfl rfl (by simp) (fun k hk => World.putObj_heap_other hk) n
   have hfr' := hfr
   refine ⟨by simp, .inl ⟨(β id).1, _, rfl, run_takeDeferred hb, ?_⟩⟩
   rw [KN_same] at g1
   refine leaves_ok hE hrun h2 g1.ms hfr hf fun β' w' g => ?_
   exact hR β' w' (g1.trans g)
  ·cases h
 | .dcall f vs :: k, β, kn, m, m', n, n', w, l, h, hm, hfr, hf, hR => by
  unfold leaveF at h
  simp only [oBs] at h
  obtain ⟨⟨m1, n1⟩, h1, h2⟩ := h
  cases hfr with
  | cons hd hfr =>
  obtain ⟨xs, ys, rfl, hva⟩ := hd
  obtain ⟨mo1, ⟨gf', c', r1, r2, r3⟩, hc⟩ := dcall_ok hE hrun h1
  have mo2 := leaveF_mo hE hrun h2
  have l1 := mo1.1
  have l2 := mo2.1
  dsimp only at l2 h2
  refine ⟨by simp, .inr ⟨fun hd => by simp [FW] at hd, .func f, ys, f, xs ++ ys, rfl, ?_, fun _ _ => trivial, ?_⟩⟩
  ·show (callFunc f (xs ++ ys)).run P w = _
   exact run_enter r1 r2 r3 _ _
  ·refine hc β kn _ w hm hva (fun i h1 h2 => hf i h1 (by omega)) _ fun β1 v w1 g1 => ?_
   show LeavesInM (FW none) 0 P gf tmps R _ (settle .returning) w1
   refine leaves_ok hE hrun h2 g1.ms (hfr.mono g1.ext) (hf.right l1) fun β2 w2 g2 => ?_
   rw [KN_KN l1 l2] at g2
   exact hR β2 w2 (g1.trans g2)
theorem callOk_of_run {E : Env'} (hE : EnvOk P E) {run : Run} (hrun : RunOk P run) : CallOk P (callFn E run) := by
 intro c vs m n v m' n' he
 cases c with
 | y id =>
  have := round_ok hE hrun he
  exact ⟨this.1, fun β kn args w hm hva hk hf => this.2 β kn args w hm hva hk hf⟩
 | f f =>
 simp only [callFn] at he
 split at he
 ·rename_i F hF
  simp only [oMs, pMi] at he
  obtain ⟨v', hv, rfl, rfl, rfl⟩ := he
  refine ⟨Mo.refl _ _, fun β kn args w hm hva _ _ r o a next Q hnext => ?_⟩
  exact hE.nat f F hF vs v' hv β kn args w hva (fun q hq => (hm.gl q hq).1) r o a next Q fun x w' hx hb => hnext β x w' (goes_below hm hb _) (by rw [KN_same]; exact hx)
 ·split at he
  ·rename_i F hF
   obtain ⟨mo, h⟩ := hE.mnat f F hF vs m n v m' n' he
   exact ⟨mo, fun β kn args w hm hva _ hf r o a next Q hnext => h β kn args w hm hva hf r o a next Q hnext⟩
  ·split at he
   ·simp at he
   ·rename_i fn hfn
    have hle := nLb (bif_none he).1
    replace he := (bif_none he).2
    simp only [oBs] at he
    obtain ⟨t, ht, ⟨e, k, s⟩, hr, he⟩ := he
    obtain ⟨gf, c, sk, rk, g1, g2, g3, g4, g5, g5', g6⟩ := hE.fns f fn hfn
    have hes : (e = .normal ∨ e = .ret) ∧ (leaveF E run k s.m s.n).bind (fun q => (evRes s.t q.1 fn.res).map fun l => (oneV l, q.1, q.2)) = some (v, m', n') := by
     cases e with
     | exit i => simp [retFn] at he
     | normal => exact ⟨.inl rfl, he⟩
     | ret => exact ⟨.inr rfl, he⟩
    obtain ⟨hes, hres⟩ := hes
    simp only [oBs, oMs, pMi] at hres
    obtain ⟨⟨md, nd⟩, hdrop, l, hl, rfl, rfl, rfl⟩ := hres
    obtain ⟨hmo, h⟩ := hrun fn.nt sk rk c fn.body _ e k s g5 g5' hr
    have hmo2 := leaveF_mo hE hrun hdrop
    have l1 := hmo.1
    have l2 := hmo2.1
    dsimp only at l1 l2
    refine ⟨hmo.trans hmo2, fun β kn args w hm hva _ hf r o a next Q hnext => ?_⟩
    show o.uponIn (FW r) 0 P a next Q ((callFunc f args).run P w)
    rw [run_enter g1 g2 g3]
    refine ⟨fun hd => by simp [FW] at hd, callsIn_FW.2 (callsIn_FW.1 (callsIn_of_wp_marks (F := FW none) (n := 0) g1 g2 trivial (h none β kn _ w [] _ (fun _ => rfl) hm (by rw [g4]; exact args_TR hva ht hle) (hf.left l2) fun β' a' w' lf hg hfr htr => ?_)))⟩
    have hlv : LeavesInM (FW none) 0 P gf a'.tmps (fun
      | .returned v, w'' => next (a.put o.dst v) w''
      | .panicked chain, w'' => Q (.panic chain) a w''
      | .outgrown, _ => LetsOut Q) lf .returning w' := by
     refine leaves_ok hE hrun hdrop hg.ms hfr (hf.right l1) fun β2 w2 g2' => ?_
     have e2 := g2'.ext
     obtain ⟨x, h1, h2⟩ := results_ok g2'.ms (htr.mono e2) g6 hl
     rw [KN_KN l1 l2] at g2' h2
     exact ⟨x, h1, hnext β2 x w2 (hg.trans g2') h2⟩
    have hdf : a'.defers = lf := by have := htr.defers; simpa using this
    rcases hes with rfl | rfl
    ·show LeavesInM (FW none) 0 P gf a'.tmps _ a'.defers .returning w'
     rw [hdf]; exact hlv
    ·show LeavesInM (FW none) 0 P gf a'.tmps _ a'.defers .returning w'
     rw [hdf]; exact hlv
theorem nat_call {E : Env'} (run : Run) : Nat' E.toEnv (callFn E run) := by
 intro f F vs v m n h1 h2
 simp only [callFn]
 rw [h1]; simp [h2]
theorem later_ok {k : List FI} {o : Option (Ex × List FI × St)} {e : Ex} {k' : List FI} {s : St} (h : later k o = some (e, k', s)) : ∃ k2, o = some (e, k2, s) ∧ k' = k2 ++ k := by
 unfold later at h
 split at h
 ·exact ⟨k', h, by simp⟩
 ·simp only [oMs, pMi] at h
  obtain ⟨⟨e1, k1, s1⟩, h1, rfl, rfl, rfl⟩ := h
  exact ⟨k1, h1, rfl⟩
theorem chain {t : Tr 3 V} {a : Act} {ds l1 l2 : List Deferred} (h : TR β kn t a N (l2 ++ (l1 ++ ds))) : TR β kn t a N ((l2 ++ l1) ++ ds) := by
 rw [List.append_assoc]; exact h
theorem rangef_ok {E : Env'} (hE : EnvOk P E) {run : Run} (hcall : CallOk P (callFn E run)) {g : Operand} {ps : Array Tmp} {ca cb : Code} {key : Nat} (hsite : CtxV.site key = some (ps, ca, cb, N)) {s s' : St} {e : Ex} {k : List FI}
  (he : rangef E (callFn E run) (val s.t (resX g)) key s = some (e, k, s')) : Mo s.m s.n s'.m s'.n ∧
  ∀ β kn a w ds (Q : Exit → Act → World → Prop), MS β kn s.m w → TR β kn s.t a N ds → Fresh kn s.n s'.n →
   (∀ β' a' w' l, Goes β kn s.m w β' (KN kn s.n s'.n) s'.m w' → FR β' (KN kn s.n s'.n) k l → TR β' (KN kn s.n s'.n) s'.t a' N (l ++ ds) → Q e.out a' w') → (Code.rangeFunc g ps ca cb).wpIn (FW none) 0 P Q a w := by
 unfold rangef at he
 split at he
 ·rename_i f first caps hv
  have hnat := (bif_none' he).1
  replace he := (bif_none' he).2
  simp only [Bool.or_eq_false_iff] at hnat
  obtain ⟨hnat, hmnat⟩ := hnat
  simp only [oBs] at he
  obtain ⟨m1, hm1, m2, hm2, ⟨v, m3, n3⟩, hc, he⟩ := he
  dsimp only at he
  have key0 : ∃ st pend key' t' db', m3.get (s.n + 1) = some (.loop key' st pend t' db') ∧ st ≠ .busy ∧ ∃ m4, setLoop m3 (s.n + 1) .exhausted pend = some m4 ∧ e = jumpEx pend ∧ k = [.mark s.n] ∧ s' = ⟨s.t, m4, n3⟩ := by
   split at he
   ·rename_i key' pend t' db' hg3
    simp only [oMs, pMi] at he
    obtain ⟨m4, h4, rfl, rfl, rfl⟩ := he
    exact ⟨_, _, _, _, _, hg3, by simp, m4, h4, rfl, rfl, rfl⟩
   ·rename_i key' pend t' db' hg3
    simp only [oMs, pMi] at he
    obtain ⟨m4, h4, rfl, rfl, rfl⟩ := he
    exact ⟨_, _, _, _, _, hg3, by simp, m4, h4, rfl, rfl, rfl⟩
   ·simp at he
  obtain ⟨st, pend, key', t', db', hg3, hst, m4, hm4, rfl, rfl, rfl⟩ := key0
  obtain ⟨mo3, p3⟩ := hcall _ _ _ _ _ _ _ hc
  have hle3 := mo3.1
  have mo1 : Mo s.m s.n m1 (s.n + 1) := newK_mo (v := .nili) (b := .defs) (k := .nili) (by simp [newK, hm1])
  have mo2 : Mo m1 (s.n + 1) m2 (s.n + 2) := newK_mo (v := .nili) (b := .loop key .ready none s.t s.n) (k := .nili) (by simp [newK, hm2])
  have mo4 : Mo m3 n3 m4 n3 := by
   unfold setLoop at hm4
   rw [hg3] at hm4
   exact Mo.set hm4 (by rw [hg3]; rfl)
  refine ⟨mo1.trans (mo2.trans (mo3.trans mo4)), fun β kn a w ds Q hm ht hf hQ => ?_⟩
  dsimp only at hf hQ
  have hn0 : ¬ kn s.n := hf _ (Nat.le_refl _) (by omega)
  have g1 := Goes.new hm hn0 (b := .defs) (o := .deferred (some [])) (sz := 0) (show BR _ _ _ .defs _ from rfl) hm1 (w1 := w) ⟨rfl, rfl, rfl, rfl⟩
  have hn1 : ¬ KN kn s.n (s.n + 1) (s.n + 1) := fun h => h.elim (hf _ (by omega) (by omega)) (fun h => by omega)
  have hx := val_ok ht g
  rw [hv] at hx
  generalize hev : a.eval g = q at hx
  cases hx with
  | fn f first caps xs ys q1 q2 q3 q4 =>
  refine wpIn_rangeFunc fun fn _ => ?_
  obtain ⟨rec, hrec⟩ : ∃ rec : Loop, rec = { state := .ready, pending := none, fn, tmps := a.tmps, params := ps, assign := ca, body := cb, defers := w.heap.size } := ⟨_, rfl⟩
  have g2 := Goes.new g1.ms hn1 (b := .loop key .ready none s.t s.n) (o := .loop rec) (sz := 0) (show BR _ _ _ (.loop key .ready none s.t s.n) _ from by
   refine ⟨rec, rfl, by rw [hrec], by rw [hrec]; rfl, by rw [hrec]; simp only; rw [ht.size]; exact hsite, fun i v hi => ?_, ?_, .inl (.inr (by omega))⟩
   ·rw [hrec]
    exact ((ht.tmps i v hi).mono g1.ext).mono (Goes.new_ext hn1 _)
   ·rw [hrec]; simp) hm2 (w1 := w.alloc (.deferred (some []))) ⟨rfl, rfl, rfl, rfl⟩
  rw [KN_KN (by omega) (by omega)] at g2
  have g12 := g1.trans g2
  obtain ⟨β2, hβ2⟩ : ∃ β2, β2 = (fun i => if i = s.n + 1 then ((w.alloc (.deferred (some []))).heap.size, 0) else if i = s.n then (w.heap.size, 0) else β i) := ⟨_, rfl⟩
  obtain ⟨w2, hw2⟩ : ∃ w2, w2 = (w.alloc (.deferred (some []))).alloc (.loop rec) := ⟨_, rfl⟩
  rw [← hβ2, ← hw2] at g12
  have hb2 : (β2 (s.n + 1)).1 = w.heap.size + 1 := by rw [hβ2]; simp
  have hb0 : (β2 s.n).1 = w.heap.size := by rw [hβ2]; simp
  obtain ⟨mk, hmk⟩ : ∃ mk : List Deferred, mk = [{ target := .collected w.heap.size, args := #[] }] := ⟨_, rfl⟩
  have hmark : ({ target := .collected w.heap.size, args := #[] } : Deferred) :: a.defers = mk ++ ds := by simp [hmk, ht.defers]
  have hfn : ∃ fnr, E.fns.get f = some fnr := by
   simp only [callFn] at hc
   split at hc
   ·rename_i F hF; rw [hF] at hnat; simp at hnat
   ·split at hc
    ·rename_i F hF; rw [hF] at hmnat; simp at hmnat
    ·split at hc
     ·simp at hc
     ·rename_i fnr hfnr; exact ⟨fnr, hfnr⟩
  obtain ⟨fnr, hfnr⟩ := hfn
  obtain ⟨gf, gc, _, _, r1, r2, r3, _⟩ := hE.fns f fnr hfnr
  have hva : VA β2 (KN kn s.n (s.n + 2)) (first ++ [.yl (s.n + 1)] ++ caps) (xs ++ #[.func (.yield (w.heap.size + 1)) #[] #[]] ++ ys) := by
   have hyl : VR β2 (KN kn s.n (s.n + 2)) (.yl (s.n + 1)) (.func (.yield (w.heap.size + 1)) #[] #[]) := by rw [← hb2]; exact .yl _ (.inr (by omega))
   have l1 : VA β2 (KN kn s.n (s.n + 2)) first xs := ⟨q1, fun i v x a b => (q2 i v x a b).mono g12.ext⟩
   have l3 : VA β2 (KN kn s.n (s.n + 2)) caps ys := ⟨q3, fun i v x a b => (q4 i v x a b).mono g12.ext⟩
   have l2 : VA β2 (KN kn s.n (s.n + 2)) [.yl (s.n + 1)] #[.func (.yield (w.heap.size + 1)) #[] #[]] := ⟨rfl, fun i v x a b => by
    cases i with
    | zero => simp at a b; subst a b; exact hyl
    | succ i => simp at a⟩
   exact (l1.append l2).append l3
  have hf3 : Fresh (KN kn s.n (s.n + 2)) (s.n + 2) n3 := hf.right (k := s.n + 2) (by omega)
  have hup := p3 β2 _ _ w2 g12.ms hva trivial hf3 none ({ dst := none, op := .move g, type := default, guard := none, after := #[], pos := default } : Oper) { a with defers := [{ target := .collected w.heap.size, args := #[] }] ++ a.defers }
   (fun a' w' => rangePost (FW none) 0 P (w.heap.size + 1) Q a' (.returned undef) w') Q (fun β3 x w3 g3 _ => by
    rw [KN_KN (by omega) hle3] at g3
    obtain ⟨key2, st2, p2, t2, db2, r, u1, u2, u3, u4, _, u5⟩ := setLoop_ok g3.ms hm4 n3
    rw [hg3] at u1
    simp only [oSi, B.loop.injEq] at u1
    obtain ⟨_, rfl, rfl, _, _⟩ := u1
    have hk1 : KN kn s.n (s.n + 2) (s.n + 1) := .inr (by omega)
    have hk0 : KN kn s.n (s.n + 2) s.n := .inr (by omega)
    have hb3 : (β3 (s.n + 1)).1 = w.heap.size + 1 := by rw [(g3.ext _ hk1).2, hb2]
    rw [hb3] at u2 u5
    have g4 := u5 { r with state := .exhausted } (by rw [← u4])
    rw [KN_same] at g4
    have gall := g12.trans (g3.trans g4)
    have htr : TR β3 (KN kn s.n n3) s.t { a with defers := mk ++ ds } N (mk ++ ds) := ⟨(ht.mono gall.ext).tmps, ht.size, rfl⟩
    have hfr : FR β3 (KN kn s.n n3) [.mark s.n] mk := by
     rw [hmk]
     exact .cons ⟨.inr (by omega), by rw [(g3.ext _ hk0).2, hb0]⟩ .nil
    refine ⟨pend.map Jmp.code, w3.putObj (w.heap.size + 1) (.loop { r with state := .exhausted }), by rw [← u4]; exact run_endLoop u2 (by rw [u3]; exact hst), ?_⟩
    have hact : (({ a with defers := [{ target := .collected w.heap.size, args := #[] }] ++ a.defers } : Act).put none x) = { a with defers := mk ++ ds } := by
     rw [← hmark]; rfl
    rw [hact]
    have hfin := hQ β3 _ _ mk gall hfr htr
    cases pend with
    | none => exact hfin
    | some j =>
     cases j with
     | ret => exact wpIn_ret hfin
     | exit id => exact wpIn_exit hfin)
  rw [show runC β2 (.f f) (xs ++ #[.func (.yield (w.heap.size + 1)) #[] #[]] ++ ys) = callFunc f (xs ++ #[.func (.yield (w.heap.size + 1)) #[] #[]] ++ ys) from rfl, run_enter r1 r2 r3] at hup
  obtain ⟨_, hcs⟩ := hup
  refine ⟨w.heap.size + 1, [{ target := .collected w.heap.size, args := #[] }], w2, { target := .fn (.func f) ys, args := xs ++ #[.func (.yield (w.heap.size + 1)) #[] #[]] }, w2, f,
   xs ++ #[.func (.yield (w.heap.size + 1)) #[] #[]] ++ ys, w2, ?_, ?_, fun _ _ => trivial, ?_, fun h => by simp [FW] at h, ?_⟩
  ·rw [hw2, hrec]; exact run_enterLoop_outer _ _ _ _ _
  ·simp only [resolve, hev]
   simp [go_sem, Deferred.ofValue, Act.eval]
  ·simp [invoke, run_enter r1 r2 r3]
  ·refine callsIn_FW.2 ((callsIn_FW.1 hcs).mono fun en w' h => ?_)
   cases en with
   | returned v => exact h
   | panicked c => exact h
   | outgrown => exact h
 ·simp at he
theorem exec_ok {E : Env'} (hE : EnvOk P E) : ∀ k, RunOk P (exec E k) := by
 intro k
 induction k using Nat.strongRecOn with
 | _ k ih =>
 cases k with
 | zero => intro N sk rk c rc s e k s' _ _ he; simp [exec] at he
 | succ k =>
  have hk := ih k (by omega)
  have hcall := callOk_of_run hE hk
  have rounds : ∀ (N : Nat) (sk : List (Nat × Skel)) (rk : Option Nat) (b : Code) (rb : RC), resCode P N sk rk b = some rb → (∀ key, rk = some key → Sites N key b) → ∀ j, j ≤ k + 1 → ∀ (s : St) (e : Ex) (kk : List FI) (s' : St), exec E j (.loop rb) s = some (e, kk, s') →
    Mo s.m s.n s'.m s'.n ∧ ∀ (r : Option Nat) β kn a w ds (Q : Exit → Act → World → Prop), (rk.isSome = true → r = none) → MS β kn s.m w → TR β kn s.t a N ds → Fresh kn s.n s'.n →
     (∀ β' a' w' l, Goes β kn s.m w β' (KN kn s.n s'.n) s'.m w' → FR β' (KN kn s.n s'.n) kk l → TR β' (KN kn s.n s'.n) s'.t a' N (l ++ ds) → Q e.out a' w') → Code.roundsIn (FW r) 0 P b Q j a w := by
   intro N sk rk b rb hb hsi j
   induction j with
   | zero => intro _ s e kk s' he; simp [exec] at he
   | succ j ihj =>
    intro hj s e kk s' he
    simp only [exec, step] at he
    split at he
    ·rename_i k1 s1 h1
     obtain ⟨k2, he2, rfl⟩ := later_ok he
     obtain ⟨mo1, p1⟩ := ih j (by omega) N sk rk b rb s .normal k1 s1 hb hsi h1
     obtain ⟨mo2, p2⟩ := ihj (by omega) s1 e k2 s' he2
     refine ⟨mo1.trans mo2, fun r β kn a w ds Q hr hm ht hf hQ => ?_⟩
     refine p1 r β kn a w ds _ hr hm ht (hf.left mo2.1) fun β1 a1 w1 l1 g1 kk1 t1 => ?_
     show Code.roundsIn (FW r) 0 P b Q j a1 w1
     refine p2 r β1 _ a1 w1 _ Q hr g1.ms t1 (hf.right mo1.1) fun β2 a2 w2 l2 g2 kk2 t2 => ?_
     have e2 := g2.ext
     rw [KN_KN mo1.1 mo2.1] at g2 t2 kk2 e2
     exact hQ β2 a2 w2 (l2 ++ l1) (g1.trans g2) (kk2.append (kk1.mono e2)) (chain t2)
    ·rename_i hne
     obtain ⟨mo1, p1⟩ := ih j (by omega) N sk rk b rb s e kk s' hb hsi he
     refine ⟨mo1, fun r β kn a w ds Q hr hm ht hf hQ => ?_⟩
     refine p1 r β kn a w ds _ hr hm ht hf fun β1 a1 w1 l1 g1 kk1 t1 => ?_
     have := hQ β1 a1 w1 l1 g1 kk1 t1
     cases e with
     | normal => exact absurd he (by intro h; exact hne _ _ h)
     | exit id => exact this
     | ret => exact this
  intro N sk rk c rc s e kk s' hres hsi he
  cases c with
  | skip =>
   simp [resCode] at hres; subst hres
   simp [exec, step] at he; obtain ⟨rfl, rfl, rfl⟩ := he
   exact ⟨Mo.refl _ _, fun r β kn a w ds Q hr hm ht _ hQ => wpIn_skip (hQ β a w [] (Goes.same hm _) .nil (by rw [KN_same]; exact ht))⟩
  | region id ops draw =>
   simp only [resCode] at hres
   cases draw with
   | false =>
    simp only [cond_false] at hres
    split at hres
    ·rename_i rc' hdef
     simp only [oSi] at hres; subst hres
     unfold resDefer at hdef
     simp only [oBs] at hdef
     obtain ⟨o, hlast, hdef⟩ := hdef
     split at hdef
     ·rename_i cl hop
      split at hdef
      ·rename_i x hcal
       have hc := (bif_none hdef).1
       replace hdef := (bif_none hdef).2
       simp only [Bool.and_eq_true] at hc
       obtain ⟨⟨c1, c2⟩, c3⟩ := hc
       have c2 : o.dst = none := by simpa using c2
       have c3 : o.guard = none := by simpa using c3
       simp only [oMs] at hdef
       obtain ⟨l, hl, rfl⟩ := hdef
       simp only [exec, step, oBs] at he
       obtain ⟨s1, h1, he⟩ := he
       split at he
       ·rename_i f first caps hv
        simp only [oSi, pMi] at he
        obtain ⟨rfl, rfl, rfl⟩ := he
        obtain ⟨lne, hlget⟩ := List.getLast?_eq_some_iff.1 hlast
        have hdl : ops.toList.dropLast ++ [o] = ops.toList := by rw [hlget]; simp
        have hsz : ops.size = ops.toList.dropLast.length + 1 := by rw [← Array.length_toList, ← hdl]; simp
        have hthen := fun (r : Option Nat) (Q : Exit → Act → World → Prop) => runOps_then hcall r Q [ops.toList.dropLast.length] (l := ops.toList.dropLast) (k := 0) (ops := ops) (fun j u hu => by
         rw [Nat.zero_add, ← Array.getElem?_toList, ← hdl, List.getElem?_append_left (by exact (gEs hu).1)]; exact hu) hl h1
        refine ⟨(hthen none (fun _ _ _ => True)).1, fun r β kn a w ds Q hr hm ht hf hQ => wpIn_region ?_⟩
        obtain rfl := hr c1
        rw [List.range_eq_range', hsz, List.range'_concat, Nat.one_mul, Nat.zero_add]
        refine (hthen none Q).2 β kn a w ds hm ht hf fun β' a' w' g t => ?_
        have ho : ops[ops.toList.dropLast.length]? = some o := by rw [← Array.getElem?_toList, ← hdl]; simp
        simp only [wpOpsIn, ho]
        rw [if_pos (by simp [Region.wanted, c3])]
        have hx := val_ok t x
        rw [hv] at hx
        generalize hev : a'.eval x = q at hx
        cases hx with
        | fn f first caps xs ys q1 q2 q3 q4 =>
        have hrun : (o.semAt (FW none).round a'.eval).run P w' = .ok (.defer { target := .fn (.func f) ys, args := xs ++ cl.args.map a'.eval }) w' := by
         show (execOp a'.eval o).run P w' = _
         simp [execOp, hop, resolve, hcal, hev, Deferred.ofValue]
        refine ⟨fun _ _ => trivial, ?_⟩
        rw [hrun]
        show Q .normal _ _
        rw [c2]
        refine hQ β' _ w' [{ target := .fn (.func f) ys, args := xs ++ cl.args.map a'.eval }] g (.cons ⟨_, _, rfl, ?_⟩ .nil) ⟨t.tmps, t.size, by show _ :: a'.defers = _; rw [t.defers]; rfl⟩
        have v1 : VA β' (KN kn s.n s1.n) first xs := ⟨q1, q2⟩
        have v3 : VA β' (KN kn s.n s1.n) caps ys := ⟨q3, q4⟩
        have v2 : VA β' (KN kn s.n s1.n) ((cl.args.toList.map resX).map (val s1.t)) (cl.args.map a'.eval) := by
         refine ⟨by simp, fun i v y e1 e2 => ?_⟩
         simp only [List.getElem?_map, Array.getElem?_toList, oMs] at e1
         obtain ⟨_, ⟨u, hu, rfl⟩, rfl⟩ := e1
         simp only [Array.getElem?_map, hu, Option.map_some, oSi] at e2
         subst e2
         exact val_ok t u
        exact (v1.append v2).append v3
       ·cases he
      ·cases hdef
     ·cases hdef
    ·simp only [oMs] at hres
     obtain ⟨l, hl, rfl⟩ := hres
     simp only [exec, step, oMs, pMi] at he
     obtain ⟨s1, h1, rfl, rfl, rfl⟩ := he
     have hno := fun (r : Option Nat) (Q : Exit → Act → World → Prop) => runOps_ok hcall r Q (l := ops.toList) (k := 0) (ops := ops) (by simp) hl h1
     refine ⟨(hno none (fun _ _ _ => True)).1, fun r β kn a w ds Q hr hm ht hf hQ => wpIn_region ?_⟩
     have := (hno r Q).2 β kn a w ds hm ht hf fun β' a' w' g t => hQ β' a' w' [] g .nil (by simpa using t)
     rw [List.range_eq_range', ← Array.length_toList]
     exact this
   | true =>
    simp only [cond_true, oBs] at hres
    obtain ⟨skel, hsk, dr, hdr, hres⟩ := hres
    have hok := (bif_none hres).1
    replace hres := (bif_none hres).2
    injection hres with hres; subst hres
    simp only [exec, step, oMs, pMi] at he
    obtain ⟨s1, h1, rfl, rfl, rfl⟩ := he
    have hdok : DOK P N ops (flatDR dr) (ancF skel.anc) := okItems_ok hok (fun p it hp => (resDR_ok hdr it (List.mem_of_getElem? hp)).1) fun q d pm re hq => (resDR_ok hdr _ (List.mem_of_getElem? hq)).2 d pm re rfl
    obtain ⟨mo, h⟩ := drawn_ok hE.mix hcall (nat_call _) hdok h1
    exact ⟨mo, fun r β kn a w ds Q hr hm ht hf hQ => h r id β kn a w ds Q hm ht hf fun β' a' w' g t => hQ β' a' w' [] g .nil (by simpa using t)⟩
  | seq x y =>
   simp only [resCode, oBs, oMs] at hres
   obtain ⟨rx, hx, ry, hy, rfl⟩ := hres
   simp only [exec, step] at he
   have sx : ∀ key, rk = some key → Sites N key x := fun key h => (hsi key h).1
   have sy : ∀ key, rk = some key → Sites N key y := fun key h => (hsi key h).2
   split at he
   ·rename_i k1 s1 h1
    obtain ⟨k2, he2, rfl⟩ := later_ok he
    obtain ⟨mo1, p1⟩ := hk N sk rk x rx s .normal k1 s1 hx sx h1
    obtain ⟨mo2, p2⟩ := hk N sk rk y ry s1 e k2 s' hy sy he2
    refine ⟨mo1.trans mo2, fun r β kn a w ds Q hr hm ht hf hQ => wpIn_seq ?_⟩
    refine p1 r β kn a w ds _ hr hm ht (hf.left mo2.1) fun β1 a1 w1 l1 g1 kk1 t1 => ?_
    show y.wpIn (FW r) 0 P Q a1 w1
    refine p2 r β1 _ a1 w1 _ Q hr g1.ms t1 (hf.right mo1.1) fun β2 a2 w2 l2 g2 kk2 t2 => ?_
    have e2 := g2.ext
    rw [KN_KN mo1.1 mo2.1] at g2 t2 kk2 e2
    exact hQ β2 a2 w2 (l2 ++ l1) (g1.trans g2) (kk2.append (kk1.mono e2)) (chain t2)
   ·rename_i hne
    obtain ⟨mo1, p1⟩ := hk N sk rk x rx s e kk s' hx sx he
    refine ⟨mo1, fun r β kn a w ds Q hr hm ht hf hQ => wpIn_seq ?_⟩
    refine p1 r β kn a w ds _ hr hm ht hf fun β1 a1 w1 l1 g1 kk1 t1 => ?_
    have := hQ β1 a1 w1 l1 g1 kk1 t1
    cases e with
    | normal => exact absurd he (by intro h; exact hne _ _ h)
    | exit id => exact this
    | ret => exact this
  | cond x y z =>
   simp only [resCode, oBs, oMs] at hres
   obtain ⟨ry, hy, rz, hz, rfl⟩ := hres
   simp only [exec, step] at he
   split at he
   ·rename_i hb
    obtain ⟨mo1, p1⟩ := hk N sk rk y ry s e kk s' hy (fun key h => (hsi key h).1) he
    refine ⟨mo1, fun r β kn a w ds Q hr hm ht hf hQ => wpIn_cond_true (asBool_ok hb (val_ok ht x)) (p1 r β kn a w ds Q hr hm ht hf hQ)⟩
   ·rename_i hb
    obtain ⟨mo1, p1⟩ := hk N sk rk z rz s e kk s' hz (fun key h => (hsi key h).2) he
    refine ⟨mo1, fun r β kn a w ds Q hr hm ht hf hQ => wpIn_cond_false (asBool_ok hb (val_ok ht x)) (p1 r β kn a w ds Q hr hm ht hf hQ)⟩
   ·simp at he
  | block id b =>
   simp only [resCode, oMs] at hres
   obtain ⟨rb, hb, rfl⟩ := hres
   simp only [exec, step] at he
   split at he
   ·rename_i i k1 s1 h1
    obtain ⟨mo1, p1⟩ := hk N sk rk b rb s (.exit i) k1 s1 hb hsi h1
    cases hi : (i == id) with
    | true =>
     simp only [hi, cond_true, oSi, pMi] at he
     obtain ⟨rfl, rfl, rfl⟩ := he
     simp only [beq_iff_eq] at hi
     refine ⟨mo1, fun r β kn a w ds Q hr hm ht hf hQ => wpIn_block (p1 r β kn a w ds _ hr hm ht hf fun β1 a1 w1 l1 g1 kk1 t1 => ?_)⟩
     simp only [Ex.out, Exit.inBlock, hi, if_true]
     exact hQ β1 a1 w1 l1 g1 kk1 t1
    | false =>
     simp only [hi, cond_false, oSi, pMi] at he
     obtain ⟨rfl, rfl, rfl⟩ := he
     simp only [beq_eq_false_iff_ne, ne_eq] at hi
     refine ⟨mo1, fun r β kn a w ds Q hr hm ht hf hQ => wpIn_block (p1 r β kn a w ds _ hr hm ht hf fun β1 a1 w1 l1 g1 kk1 t1 => ?_)⟩
     simp only [Ex.out, Exit.inBlock, hi, if_false]
     exact hQ β1 a1 w1 l1 g1 kk1 t1
   ·rename_i hne
    obtain ⟨mo1, p1⟩ := hk N sk rk b rb s e kk s' hb hsi he
    refine ⟨mo1, fun r β kn a w ds Q hr hm ht hf hQ => wpIn_block (p1 r β kn a w ds _ hr hm ht hf fun β1 a1 w1 l1 g1 kk1 t1 => ?_)⟩
    have := hQ β1 a1 w1 l1 g1 kk1 t1
    cases e with
    | normal => exact this
    | exit i => exact absurd he (by intro h; exact hne _ _ _ h)
    | ret => exact this
  | loop b =>
   simp only [resCode, oMs] at hres
   obtain ⟨rb, hb, rfl⟩ := hres
   obtain ⟨mo1, p1⟩ := rounds N sk rk b rb hb hsi (k + 1) (Nat.le_refl _) s e kk s' he
   exact ⟨mo1, fun r β kn a w ds Q hr hm ht hf hQ => wpIn_loop_rounds (k + 1) (p1 r β kn a w ds Q hr hm ht hf hQ)⟩
  | exit id =>
   simp [resCode] at hres; subst hres
   simp [exec, step] at he; obtain ⟨rfl, rfl, rfl⟩ := he
   exact ⟨Mo.refl _ _, fun r β kn a w ds Q hr hm ht _ hQ => wpIn_exit (hQ β a w [] (Goes.same hm _) .nil (by rw [KN_same]; exact ht))⟩
  | ret =>
   simp [resCode] at hres; subst hres
   simp [exec, step] at he; obtain ⟨rfl, rfl, rfl⟩ := he
   exact ⟨Mo.refl _ _, fun r β kn a w ds Q hr hm ht _ hQ => wpIn_ret (hQ β a w [] (Goes.same hm _) .nil (by rw [KN_same]; exact ht))⟩
  | rangeFunc g ps ca cb =>
   cases rk with
   | none => simp [resCode] at hres; subst hres; simp [exec, step] at he
   | some key =>
    simp [resCode] at hres; subst hres
    simp only [exec, step] at he
    obtain ⟨mo, h⟩ := rangef_ok hE hcall (hsi key rfl) he
    refine ⟨mo, fun r β kn a w ds Q hr hm ht hf hQ => ?_⟩
    obtain rfl := hr rfl
    exact h β kn a w ds Q hm ht hf hQ
  | _ => simp [resCode] at hres; subst hres; simp [exec, step] at he
theorem call_ok {E : Env'} (hE : EnvOk P E) (k : Nat) : CallOk P (callFn E (exec E k)) := callOk_of_run hE (exec_ok hE k)
end
end Go.Fm
namespace Go.Fm
open Go.RowKit (Below)
def pureV : V → Bool
 | .int .. | .bool _ | .str _ | .nilp | .nils | .nilm | .nilf | .nili => true
 | .ifc _ v => pureV v
 | .agg l => pureL l
 | .tup l => pureL l
 | _ => false
where pureL : List V → Bool
 | [] => true
 | v :: r => pureV v && pureL r
theorem pureL_get : ∀ {l : List V} {i : Nat} {v : V}, pureV.pureL l = true → l[i]? = some v → pureV v = true
 | [], _, _, _, h => by simp at h
 | u :: r, 0, v, h, e => by
  simp only [pureV.pureL, Bool.and_eq_true] at h
  simp at e; subst e; exact h.1
 | u :: r, i + 1, v, h, e => by
  simp only [pureV.pureL, Bool.and_eq_true] at h
  exact pureL_get h.2 (by simpa using e)
theorem VR.pure {β β' : Nat → Nat × Nat} {kn kn' : Nat → Prop} {v : V} {x : Value} (h : VR β kn v x) (hp : pureV v = true) : VR β' kn' v x := by
 induction h with
 | u x => exact .u x
 | int k n => exact .int k n
 | bool b => exact .bool b
 | str s => exact .str s
 | ptr id off h => simp [pureV] at hp
 | nilp => exact .nilp
 | sl id off len cap sz c o h h1 h2 h3 h4 => simp [pureV] at hp
 | nils => exact .nils
 | mp id h => simp [pureV] at hp
 | nilm => exact .nilm
 | fn f first caps xs ys h1 _ h3 _ ih1 ih2 => simp [pureV] at hp
 | nilf => exact .nilf
 | yl id h => simp [pureV] at hp
 | ifc t v x _ ih => exact .ifc t v x (ih (by simpa [pureV] using hp))
 | nili => exact .nili
 | agg cs xs h1 _ ih => exact .agg cs xs h1 fun i v x a b => ih i v x a b (pureL_get (by simpa [pureV] using hp) a)
 | tup vs xs h1 _ ih => exact .tup vs xs h1 fun i v x a b => ih i v x a b (pureL_get (by simpa [pureV] using hp) a)
section
variable [Ctx] {P : Program}
theorem nat_of_run {E : Env'} (hE : EnvOk P E) {f : FuncId} {F : List V → Option V}
  (h : ∀ vs v, F vs = some v → pureV.pureL vs = true ∧ pureV v = true ∧ ∃ k m' n', callFn E (exec E k) (.f f) vs .nil 0 = some (v, m', n')) : NSpec P f F := by
 intro vs v hF β kn args w hva hgl r o a next Q hnext
 obtain ⟨hp, hpv, k, m', n', he⟩ := h vs v hF
 obtain ⟨_, hc⟩ := call_ok hE k (.f f) vs .nil 0 v m' n' he
 refine hc (fun _ => (0, 0)) (fun _ => False) args w ⟨fun id b e => by simp [Tr.get_nil] at e, fun i j b c e => by simp [Tr.get_nil] at e, fun q hq => ⟨hgl q hq, fun id c e => by simp [Tr.get_nil] at e⟩⟩ ⟨hva.1, fun i u x e1 e2 => (hva.2 i u x e1 e2).pure (pureL_get hp e1)⟩ trivial (fun _ _ _ h => h) r o a next Q
  fun β' x w' hg hx => hnext x w' (hx.pure hpv) ⟨hg.fr.os, hg.fr.tape, hg.fr.output, hg.fr.size, fun b hb => hg.fr.block b hb fun id c e => by simp [Tr.get_nil] at e⟩
def sameV : V → V → Bool
 | .int k n, .int k' n' => k == k' && n == n'
 | .bool b, .bool b' => b == b'
 | .str s, .str s' => s.data.toList == s'.data.toList
 | .nilp, .nilp => true
 | .nils, .nils => true
 | .nilm, .nilm => true
 | .nilf, .nilf => true
 | .nili, .nili => true
 | .ifc t v, .ifc t' v' => t == t' && sameV v v'
 | .agg l, .agg l' => sameVs l l'
 | .tup l, .tup l' => sameVs l l'
 | _, _ => false
where sameVs : List V → List V → Bool
 | [], [] => true
 | v :: r, v' :: r' => sameV v v' && sameVs r r'
 | _, _ => false
mutual
theorem sameV_ok : ∀ {v v' : V}, sameV v v' = true → v = v' ∧ pureV v = true
 | .int k n, v', h => by cases v' <;> simp [sameV] at h; obtain ⟨rfl, rfl⟩ := h; exact ⟨rfl, rfl⟩
 | .bool b, v', h => by cases v' <;> simp [sameV] at h; subst h; exact ⟨rfl, rfl⟩
 | .str s, v', h => by
  cases v' <;> simp only [sameV, Bool.false_eq_true] at h
  exact ⟨by rw [eqB h], rfl⟩
 | .nilp, v', h => by cases v' <;> simp [sameV] at h; exact ⟨rfl, rfl⟩
 | .nils, v', h => by cases v' <;> simp [sameV] at h; exact ⟨rfl, rfl⟩
 | .nilm, v', h => by cases v' <;> simp [sameV] at h; exact ⟨rfl, rfl⟩
 | .nilf, v', h => by cases v' <;> simp [sameV] at h; exact ⟨rfl, rfl⟩
 | .nili, v', h => by cases v' <;> simp [sameV] at h; exact ⟨rfl, rfl⟩
 | .ifc t v, v', h => by
  cases v' <;> simp only [sameV, Bool.false_eq_true, Bool.and_eq_true, beq_iff_eq] at h
  obtain ⟨rfl, h⟩ := h
  obtain ⟨rfl, h2⟩ := sameV_ok h
  exact ⟨rfl, by simpa [pureV] using h2⟩
 | .agg l, v', h => by
  cases v' <;> simp only [sameV, Bool.false_eq_true] at h
  obtain ⟨rfl, h2⟩ := sameVs_ok h
  exact ⟨rfl, by simpa [pureV] using h2⟩
 | .tup l, v', h => by
  cases v' <;> simp only [sameV, Bool.false_eq_true] at h
  obtain ⟨rfl, h2⟩ := sameVs_ok h
  exact ⟨rfl, by simpa [pureV] using h2⟩
 | .u, v', h => by simp [sameV] at h
 | .ptr _ _, v', h => by simp [sameV] at h
 | .sl .., v', h => by simp [sameV] at h
 | .mp _, v', h => by simp [sameV] at h
 | .fn .., v', h => by simp [sameV] at h
 | .yl _, v', h => by simp [sameV] at h
theorem sameVs_ok : ∀ {l l' : List V}, sameV.sameVs l l' = true → l = l' ∧ pureV.pureL l = true
 | [], l', h => by cases l' <;> simp [sameV.sameVs] at h; exact ⟨rfl, rfl⟩
 | v :: r, l', h => by
  cases l' <;> simp only [sameV.sameVs, Bool.false_eq_true, Bool.and_eq_true] at h
  obtain ⟨h1, h2⟩ := h
  obtain ⟨rfl, p1⟩ := sameV_ok h1
  obtain ⟨rfl, p2⟩ := sameVs_ok h2
  exact ⟨rfl, by simp [pureV.pureL, p1, p2]⟩
end
end
end Go.Fm
namespace Go.Fm
def renV (r : Nat → Nat) : V → V
 | .ptr id off => .ptr (r id) off
 | .sl id off len cap sz => .sl (r id) off len cap sz
 | .mp id => .mp (r id)
 | .fn f first caps => .fn f (renL first) (renL caps)
 | .yl id => .yl (r id)
 | .ifc t v => .ifc t (renV r v)
 | .agg cs => .agg (renL cs)
 | .tup vs => .tup (renL vs)
 | .u => .u
 | .int k n => .int k n
 | .bool b => .bool b
 | .str s => .str s
 | .nilp => .nilp
 | .nils => .nils
 | .nilm => .nilm
 | .nilf => .nilf
 | .nili => .nili
where renL : List V → List V
 | [] => []
 | v :: l => renV r v :: renL l
theorem renL_eq (r : Nat → Nat) : ∀ l : List V, renV.renL r l = l.map (renV r)
 | [] => rfl
 | v :: l => by
  show renV r v :: renV.renL r l = _
  rw [renL_eq r l]; rfl
theorem map_get {α γ : Type} {f : α → γ} {l : List α} {i : Nat} {v : γ} (h : (l.map f)[i]? = some v) : ∃ u, l[i]? = some u ∧ f u = v := by
 rw [List.getElem?_map, oMs] at h; exact h
theorem VR.ren {β β' : Nat → Nat × Nat} {kn kn' : Nat → Prop} {r : Nat → Nat} (hr : ∀ i, kn i → kn' (r i) ∧ β' (r i) = β i) {v : V} {x : Value} (h : VR β kn v x) : VR β' kn' (renV r v) x := by
 induction h with
 | u x => exact .u x
 | int k n => exact .int k n
 | bool b => exact .bool b
 | str s => exact .str s
 | ptr id off h =>
  have := hr id h
  show VR β' kn' (.ptr (r id) off) _
  rw [← this.2]; exact .ptr _ off this.1
 | nilp => exact .nilp
 | sl id off len cap sz c o h h1 h2 h3 h4 =>
  have := hr id h
  show VR β' kn' (.sl (r id) off len cap sz) _
  rw [← this.2] at h2 ⊢; exact .sl _ off len cap sz c o this.1 h1 h2 h3 h4
 | nils => exact .nils
 | mp id h =>
  have := hr id h
  show VR β' kn' (.mp (r id)) _
  rw [← this.2]; exact .mp _ this.1
 | nilm => exact .nilm
 | fn f first caps xs ys h1 _ h3 _ ih1 ih2 =>
  show VR β' kn' (.fn f (renV.renL r first) (renV.renL r caps)) _
  rw [renL_eq, renL_eq]
  refine .fn f _ _ xs ys (by simp [h1]) (fun i v x a b => ?_) (by simp [h3]) (fun i v x a b => ?_)
  ·obtain ⟨u, e, rfl⟩ := map_get a; exact ih1 i u x e b
  ·obtain ⟨u, e, rfl⟩ := map_get a; exact ih2 i u x e b
 | nilf => exact .nilf
 | yl id h =>
  have := hr id h
  show VR β' kn' (.yl (r id)) _
  rw [← this.2]; exact .yl _ this.1
 | ifc t v x _ ih => exact .ifc t _ x ih
 | nili => exact .nili
 | agg cs xs h1 _ ih =>
  show VR β' kn' (.agg (renV.renL r cs)) _
  rw [renL_eq]
  refine .agg _ xs (by simp [h1]) (fun i v x a b => ?_)
  obtain ⟨u, e, rfl⟩ := map_get a; exact ih i u x e b
 | tup vs xs h1 _ ih =>
  show VR β' kn' (.tup (renV.renL r vs)) _
  rw [renL_eq]
  refine .tup _ xs (by simp [h1]) (fun i v x a b => ?_)
  obtain ⟨u, e, rfl⟩ := map_get a; exact ih i u x e b
theorem VRow.ren {β β' : Nat → Nat × Nat} {kn kn' : Nat → Prop} {r : Nat → Nat} (hr : ∀ i, kn i → kn' (r i) ∧ β' (r i) = β i) {xs : Array Value} {off : Nat} {vs : List V} (h : VRow β kn xs off vs) : VRow β' kn' xs off (renV.renL r vs) := by
 rw [renL_eq]
 refine ⟨by simpa using h.1, fun i v x a b => ?_⟩
 obtain ⟨u, e, rfl⟩ := map_get a
 exact (h.2 i u x e b).ren hr
def simV (r : Nat → Option Nat) : V → V → Bool
 | .u, _ => true
 | .int k n, .int k' n' => k == k' && n == n'
 | .bool b, .bool b' => b == b'
 | .str s, .str s' => s.data.toList == s'.data.toList
 | .ptr i o, .ptr i' o' => r i == some i' && o == o'
 | .nilp, .nilp => true
 | .sl i o l c z, .sl i' o' l' c' z' => r i == some i' && o == o' && l == l' && (c == none || c == c') && z == z'
 | .nils, .nils => true
 | .mp i, .mp i' => r i == some i'
 | .nilm, .nilm => true
 | .fn (.func f) a b, .fn (.func f') a' b' => f == f' && simL a a' && simL b b'
 | .nilf, .nilf => true
 | .ifc t v, .ifc t' v' => t == t' && simV r v v'
 | .nili, .nili => true
 | .agg l, .agg l' => simL l l'
 | .tup l, .tup l' => simL l l'
 | _, _ => false
where simL : List V → List V → Bool
 | [], [] => true
 | v :: l, v' :: l' => simV r v v' && simL l l'
 | _, _ => false
section
variable [Ctx] {β β0 : Nat → Nat × Nat} {kn kn0 : Nat → Prop} {r : Nat → Option Nat}
mutual
theorem simV_ok (hr : ∀ i i', r i = some i' → kn i' → kn0 i ∧ β0 i = β i') : ∀ {v0 v : V} {x : Value}, simV r v0 v = true → VR β kn v x → VR β0 kn0 v0 x
 | .u, v, x, _, _ => .u x
 | .int k n, v, x, hs, h => by
  cases h with
  | int k' n' => simp [simV] at hs; obtain ⟨rfl, rfl⟩ := hs; exact .int k n
  | _ => simp [simV] at hs
 | .bool b, v, x, hs, h => by
  cases h with
  | bool b' => simp [simV] at hs; subst hs; exact .bool b
  | _ => simp [simV] at hs
 | .str s, v, x, hs, h => by
  cases h with
  | str s' => simp only [simV] at hs; rw [eqB hs]; exact .str s'
  | _ => simp [simV] at hs
 | .ptr i o, v, x, hs, h => by
  cases h with
  | ptr id off hk =>
   simp [simV] at hs; obtain ⟨h1, rfl⟩ := hs
   obtain ⟨h2, h3⟩ := hr _ _ h1 hk
   rw [← h3]; exact .ptr i o h2
  | _ => simp [simV] at hs
 | .nilp, v, x, hs, h => by
  cases h with
  | nilp => exact .nilp
  | _ => simp [simV] at hs
 | .sl i o l c z, v, x, hs, h => by
  cases h with
  | sl id off len cap sz c' o' hk h1 h2 h3 h4 =>
   simp only [simV, Bool.and_eq_true, beq_iff_eq, Bool.or_eq_true] at hs
   obtain ⟨⟨⟨⟨g1, rfl⟩, rfl⟩, g2⟩, rfl⟩ := hs
   obtain ⟨g3, g4⟩ := hr _ _ g1 hk
   rw [← g4] at h2 ⊢
   refine .sl i o l c z c' o' g3 h1 h2 (fun k hk => ?_) h4
   rcases g2 with rfl | rfl
   ·cases hk
   ·exact h3 k hk
  | _ => simp [simV] at hs
 | .nils, v, x, hs, h => by
  cases h with
  | nils => exact .nils
  | _ => simp [simV] at hs
 | .mp i, v, x, hs, h => by
  cases h with
  | mp id hk =>
   simp [simV] at hs
   obtain ⟨h2, h3⟩ := hr _ _ hs hk
   rw [← h3]; exact .mp i h2
  | _ => simp [simV] at hs
 | .nilm, v, x, hs, h => by
  cases h with
  | nilm => exact .nilm
  | _ => simp [simV] at hs
 | .fn f0 a b, v, x, hs, h => by
  cases f0 with
  | func f =>
   cases h with
   | fn f' first caps xs ys h1 h2 h3 h4 =>
    cases f' with
    | func f' =>
     simp only [simV, Bool.and_eq_true, beq_iff_eq] at hs
     obtain ⟨⟨rfl, ha⟩, hb⟩ := hs
     obtain ⟨ha1, ha2⟩ := simL_ok hr ha
     obtain ⟨hb1, hb2⟩ := simL_ok hr hb
     refine .fn _ a b xs ys (by rw [h1, ha1]) (fun i v x e1 e2 => ?_) (by rw [h3, hb1]) (fun i v x e1 e2 => ?_)
     ·obtain ⟨u, hu⟩ : ∃ u, first[i]? = some u := by
       have : i < first.length := by have := (gEs e1).1; omega
       exact ⟨_, List.getElem?_eq_getElem this⟩
      exact ha2 i v u x e1 hu (h2 i u x hu e2)
     ·obtain ⟨u, hu⟩ : ∃ u, caps[i]? = some u := by
       have : i < caps.length := by have := (gEs e1).1; omega
       exact ⟨_, List.getElem?_eq_getElem this⟩
      exact hb2 i v u x e1 hu (h4 i u x hu e2)
    | _ => simp [simV] at hs
   | _ => simp [simV] at hs
  | _ => cases h <;> simp [simV] at hs
 | .nilf, v, x, hs, h => by
  cases h with
  | nilf => exact .nilf
  | _ => simp [simV] at hs
 | .ifc t v0, v, x, hs, h => by
  cases h with
  | ifc t' v' x' h' =>
   simp only [simV, Bool.and_eq_true, beq_iff_eq] at hs
   obtain ⟨rfl, hs⟩ := hs
   exact .ifc t v0 x' (simV_ok hr hs h')
  | _ => simp [simV] at hs
 | .nili, v, x, hs, h => by
  cases h with
  | nili => exact .nili
  | _ => simp [simV] at hs
 | .agg l, v, x, hs, h => by
  cases h with
  | agg l' xs h1 h2 =>
   simp only [simV] at hs
   obtain ⟨ha1, ha2⟩ := simL_ok hr hs
   refine .agg l xs (by rw [h1, ha1]) (fun i v x e1 e2 => ?_)
   obtain ⟨u, hu⟩ : ∃ u, l'[i]? = some u := by
    have : i < l'.length := by have := (gEs e1).1; omega
    exact ⟨_, List.getElem?_eq_getElem this⟩
   exact ha2 i v u x e1 hu (h2 i u x hu e2)
  | _ => simp [simV] at hs
 | .tup l, v, x, hs, h => by
  cases h with
  | tup l' xs h1 h2 =>
   simp only [simV] at hs
   obtain ⟨ha1, ha2⟩ := simL_ok hr hs
   refine .tup l xs (by rw [h1, ha1]) (fun i v x e1 e2 => ?_)
   obtain ⟨u, hu⟩ : ∃ u, l'[i]? = some u := by
    have : i < l'.length := by have := (gEs e1).1; omega
    exact ⟨_, List.getElem?_eq_getElem this⟩
   exact ha2 i v u x e1 hu (h2 i u x hu e2)
  | _ => simp [simV] at hs
 | .yl i, v, x, hs, h => by simp [simV] at hs
theorem simL_ok (hr : ∀ i i', r i = some i' → kn i' → kn0 i ∧ β0 i = β i') : ∀ {l0 l : List V}, simV.simL r l0 l = true → l0.length = l.length ∧ ∀ (i : Nat) (v0 v : V) (x : Value), l0[i]? = some v0 → l[i]? = some v → VR β kn v x → VR β0 kn0 v0 x
 | [], l, h => by cases l <;> simp [simV.simL] at h; exact ⟨rfl, fun i v0 v x e => by simp at e⟩
 | v0 :: l0, l, h => by
  cases l with
  | nil => simp [simV.simL] at h
  | cons v l =>
   simp only [simV.simL, Bool.and_eq_true] at h
   obtain ⟨h1, h2⟩ := h
   have ih := simL_ok hr h2
   refine ⟨by simp [ih.1], fun i u0 u x e1 e2 hx => ?_⟩
   cases i with
   | zero => simp at e1 e2; subst e1; subst e2; exact simV_ok hr h1 hx
   | succ i => simp at e1 e2; exact ih.2 i u0 u x e1 e2 hx
end
theorem simRow (hr : ∀ i i', r i = some i' → kn i' → kn0 i ∧ β0 i = β i') {l0 l : List V} (hs : simV.simL r l0 l = true) {xs : Array Value} (h : VRow β kn xs 0 l) : VRow β0 kn0 xs 0 l0 := by
 obtain ⟨h1, h2⟩ := simL_ok hr hs
 refine ⟨by rw [h1]; exact h.1, fun i v x e1 e2 => ?_⟩
 obtain ⟨u, hu⟩ : ∃ u, l[i]? = some u := by
  have : i < l.length := by have := (gEs e1).1; omega
  exact ⟨_, List.getElem?_eq_getElem this⟩
 exact h2 i v u x e1 hu (h.2 i u x hu e2)
end
def simB (r : Nat → Option Nat) : B → B → Bool
 | .cells cs T, .cells cs' T' => T == T' && simV.simL r cs cs'
 | .ro cs, .ro cs' => simV.simL r cs cs'
 | .iter s p, .iter s' p' => s.data.toList == s'.data.toList && p == p'
 | _, _ => false
def renB (r : Nat → Nat) : B → B
 | .cells cs T => .cells (renV.renL r cs) T
 | .ro cs => .ro (renV.renL r cs)
 | .fix cs o => .fix (renV.renL r cs) o
 | b => b
section
variable [Ctx]
theorem BR.sim {β β0 : Nat → Nat × Nat} {kn kn0 : Nat → Prop} {r : Nat → Option Nat} (hr : ∀ i i', r i = some i' → kn i' → kn0 i ∧ β0 i = β i') {n : Nat} {b0 b : B} {o : Option Obj} (hs : simB r b0 b = true) (h : BR β kn n b o) : BR β0 kn0 n b0 o := by
 cases b0 <;> cases b <;> first | (simp only [simB, Bool.false_eq_true] at hs; done) | skip
 ·simp only [simB, Bool.and_eq_true, beq_iff_eq] at hs
  obtain ⟨rfl, hs⟩ := hs
  obtain ⟨arr, h1, h2, h3⟩ := h
  exact ⟨arr, h1, h2, simRow hr hs h3⟩
 ·simp only [simB] at hs
  obtain ⟨arr, T, fr, h1, h3⟩ := h
  exact ⟨arr, T, fr, h1, simRow hr hs h3⟩
 ·simp only [simB, Bool.and_eq_true] at hs
  have e1 := eqB hs.1
  have e2 := beq_iff_eq.1 hs.2
  subst e1; subst e2; exact h
theorem BR.ren {β β' : Nat → Nat × Nat} {kn kn' : Nat → Prop} {r : Nat → Nat} (hr : ∀ i, kn i → kn' (r i) ∧ β' (r i) = β i) {q : Nat → Option Nat} {n : Nat} {b b1 : B} {o : Option Obj} (hs : simB q b b1 = true) (h : BR β kn n b o) : BR β' kn' n (renB r b) o := by
 cases b with
 | cells cs T => obtain ⟨arr, h1, h2, h3⟩ := h; exact ⟨arr, h1, h2, h3.ren hr⟩
 | ro cs => obtain ⟨arr, T, fr, h1, h3⟩ := h; exact ⟨arr, T, fr, h1, h3.ren hr⟩
 | iter s pos => exact h
 | _ => simp [simB] at hs
end
structure Ent where
 vs : List V
 pre : List (Nat × B)
 n : Nat
 v : V
 post : List (Nat × B)
def memOf : List (Nat × B) → Mem
 | [] => .nil
 | p :: l => match Tr.set fuel (memOf l) p.1 (some p.2) with
  | some m => m
  | none => memOf l
theorem memOf_mem {k : Nat} {b : B} : ∀ {l : List (Nat × B)}, (memOf l).get k = some b → (k, b) ∈ l
 | [], h => by
  have : (Tr.nil : Mem).get k = some b := h
  rw [Tr.get_nil] at this; cases this
 | p :: l, h => by
  obtain ⟨i, c⟩ := p
  unfold memOf at h
  split at h
  ·rename_i m hm
   rw [Tr.get_set hm] at h
   by_cases hk : k = i
   ·subst hk
    rw [if_pos rfl] at h
    injection h with h; subst h
    exact List.mem_cons_self ..
   ·rw [if_neg hk] at h
    exact List.mem_cons_of_mem _ (memOf_mem h)
  ·exact List.mem_cons_of_mem _ (memOf_mem h)
def lk : List (Nat × Nat) → Nat → Option Nat
 | [], _ => none
 | p :: l, i => bif Nat.beq p.1 i then some p.2 else lk l i
theorem lk_mem {i j : Nat} : ∀ {l : List (Nat × Nat)}, lk l i = some j → (i, j) ∈ l
 | [], h => by cases h
 | p :: l, h => by
  obtain ⟨a, b⟩ := p
  unfold lk at h
  cases hb : Nat.beq a i with
  | true =>
   rw [hb] at h
   have : a = i := Nat.eq_of_beq_eq_true hb
   subst this
   simp only [cond_true, oSi] at h; subst h
   exact List.mem_cons_self ..
  | false =>
   rw [hb] at h
   exact List.mem_cons_of_mem _ (lk_mem h)
def injB : List (Nat × Nat) → Bool
 | [] => true
 | p :: l => l.all (fun q => !(Nat.beq q.2 p.2)) && injB l
theorem injB_ok {i i' j : Nat} : ∀ {l : List (Nat × Nat)}, injB l = true → (i, j) ∈ l → (i', j) ∈ l → i = i'
 | [], _, h, _ => by simp at h
 | p :: l, hi, h, h' => by
  simp only [injB, Bool.and_eq_true, List.all_eq_true] at hi
  rcases List.mem_cons.1 h with h1 | h1 <;> rcases List.mem_cons.1 h' with h2 | h2
  ·rw [← h1] at h2; injection h2 with h2 _; exact h2.symm
  ·have := hi.1 _ h2
   rw [← h1] at this; simp at this
  ·have := hi.1 _ h1
   rw [← h2] at this; simp at this
  ·exact injB_ok hi.2 h1 h2
def preOk (ρ : List (Nat × Nat)) (m : Mem) (p : Nat × B) : Bool := match lk ρ p.1 with
 | none => false
 | some j => match m.get j with
  | some b => simB (lk ρ) p.2 b
  | none => false
theorem preOk_ok {ρ : List (Nat × Nat)} {m : Mem} {p : Nat × B} (h : preOk ρ m p = true) : ∃ j b, lk ρ p.1 = some j ∧ m.get j = some b ∧ simB (lk ρ) p.2 b = true := by
 unfold preOk at h
 split at h
 ·cases h
 ·rename_i j hj
  split at h
  ·rename_i b hb; exact ⟨j, b, hj, hb, h⟩
  ·cases h
def okIn (e : Ent) (ρ : List (Nat × Nat)) (vs : List V) (m : Mem) : Bool :=
 simV.simL (lk ρ) e.vs vs && (e.pre.all (preOk ρ m) && (injB ρ && ρ.all fun q => Nat.blt q.1 e.n))
def dropAll (ρ : List (Nat × Nat)) : List (Nat × B) → Mem → Option Mem
 | [], m => some m
 | p :: l, m => match lk ρ p.1 with
  | some j => match Tr.set fuel m j none with
   | some m => dropAll ρ l m
   | none => none
  | none => none
theorem dropAll_get {ρ : List (Nat × Nat)} {j : Nat} {b : B} : ∀ {l : List (Nat × B)} {m m1 : Mem}, dropAll ρ l m = some m1 → m1.get j = some b → m.get j = some b ∧ ∀ p ∈ l, lk ρ p.1 ≠ some j
 | [], m, m1, h, hb => by
  injection h with h; subst h
  exact ⟨hb, fun p hp => by simp at hp⟩
 | q :: l, m, m1, h, hb => by
  unfold dropAll at h
  split at h
  ·rename_i i hi
   split at h
   ·rename_i m2 hm
    obtain ⟨h1, h2⟩ := dropAll_get h hb
    rw [Tr.get_set hm] at h1
    by_cases hj : j = i
    ·rw [if_pos hj] at h1; cases h1
    ·rw [if_neg hj] at h1
     refine ⟨h1, fun p hp => ?_⟩
     rcases List.mem_cons.1 hp with rfl | hp
     ·rw [hi]; intro e; injection e with e; exact hj e.symm
     ·exact h2 p hp
   ·cases h
  ·cases h
def putAll (r : Nat → Nat) : List (Nat × B) → Mem → Option Mem
 | [], m => some m
 | p :: l, m => match Tr.set fuel m (r p.1) (some (renB r p.2)) with
  | some m => putAll r l m
  | none => none
theorem putAll_get {r : Nat → Nat} {j : Nat} {b : B} : ∀ {l : List (Nat × B)} {m m1 : Mem}, putAll r l m = some m1 → m1.get j = some b → (∃ p ∈ l, r p.1 = j ∧ renB r p.2 = b) ∨ m.get j = some b
 | [], m, m1, h, hb => by
  injection h with h; subst h
  exact .inr hb
 | q :: l, m, m1, h, hb => by
  unfold putAll at h
  split at h
  ·rename_i m2 hm
   rcases putAll_get h hb with ⟨p, hp, h1, h2⟩ | h1
   ·exact .inl ⟨p, List.mem_cons_of_mem _ hp, h1, h2⟩
   ·rw [Tr.get_set hm] at h1
    by_cases hj : j = r q.1
    ·rw [if_pos hj] at h1
     injection h1 with h1
     exact .inl ⟨q, List.mem_cons_self .., hj.symm, h1⟩
    ·rw [if_neg hj] at h1; exact .inr h1
  ·cases h
def freshOf (n : Nat) : List (Nat × B) → List Nat
 | [] => []
 | p :: l => bif Nat.blt p.1 n then freshOf n l else p.1 :: freshOf n l
theorem freshOf_ge {n i : Nat} : ∀ {l : List (Nat × B)}, i ∈ freshOf n l → n ≤ i
 | [], h => by simp [freshOf] at h
 | p :: l, h => by
  unfold freshOf at h
  cases hb : Nat.blt p.1 n with
  | true => rw [hb] at h; exact freshOf_ge h
  | false =>
   rw [hb] at h
   rcases List.mem_cons.1 h with rfl | h
   ·rcases Nat.lt_or_ge p.1 n with q | q
    ·have : Nat.blt p.1 n = true := Nat.ble_eq_true_of_le q
     rw [this] at hb; cases hb
    ·exact q
   ·exact freshOf_ge h
theorem mem_freshOf {n : Nat} {p : Nat × B} (hp : n ≤ p.1) : ∀ {l : List (Nat × B)}, p ∈ l → p.1 ∈ freshOf n l
 | [], h => by simp at h
 | q :: l, h => by
  unfold freshOf
  rcases List.mem_cons.1 h with rfl | h
  ·have : Nat.blt p.1 n = false := by
    cases hb : Nat.blt p.1 n with
    | false => rfl
    | true => have : p.1 + 1 ≤ n := nLb hb; omega
   rw [this]; exact List.mem_cons_self ..
  ·cases Nat.blt q.1 n with
   | true => exact mem_freshOf hp h
   | false => exact List.mem_cons_of_mem _ (mem_freshOf hp h)
def pos (i : Nat) : List Nat → Nat → Option Nat
 | [], _ => none
 | j :: l, k => bif Nat.beq j i then some k else pos i l (k + 1)
theorem pos_some {i : Nat} : ∀ {l : List Nat} {k : Nat}, i ∈ l → ∃ a, pos i l k = some a
 | [], k, h => by simp at h
 | j :: l, k, h => by
  unfold pos
  cases hb : Nat.beq j i with
  | true => exact ⟨k, rfl⟩
  | false =>
   rcases List.mem_cons.1 h with rfl | h
   ·simp at hb
   ·exact pos_some h
theorem pos_ok {i a : Nat} : ∀ {l : List Nat} {k : Nat}, pos i l k = some a → k ≤ a ∧ a < k + l.length ∧ l[a - k]? = some i
 | [], k, h => by cases h
 | j :: l, k, h => by
  unfold pos at h
  cases hb : Nat.beq j i with
  | true =>
   rw [hb] at h
   have : j = i := Nat.eq_of_beq_eq_true hb
   subst this
   simp only [cond_true, oSi] at h; subst h
   exact ⟨Nat.le_refl _, by simp, by simp⟩
  | false =>
   rw [hb] at h
   obtain ⟨h1, h2, h3⟩ := pos_ok h
   refine ⟨by omega, by simp; omega, ?_⟩
   rw [show a - k = (a - (k + 1)) + 1 by omega]
   simpa using h3
theorem pos_mem {i a k : Nat} {l : List Nat} (h : pos i l k = some a) : i ∈ l := List.mem_of_getElem? (pos_ok h).2.2
def orZ : Option Nat → Nat
 | some j => j
 | none => 0
def outR (e : Ent) (ρ : List (Nat × Nat)) (n i : Nat) : Nat := bif Nat.blt i e.n then orZ (lk ρ i) else orZ (pos i (freshOf e.n e.post) n)
def inS (e : Ent) (i : Nat) : Option Nat := bif Nat.blt i e.n then some i else (pos i (freshOf e.n e.post) 0).map fun _ => i
def useEnt (e : Ent) (ρ : List (Nat × Nat)) (vs : List V) (m : Mem) (n : Nat) : Option (V × Mem × Nat) :=
 bif okIn e ρ vs m then (dropAll ρ e.pre m).bind fun m1 => (putAll (outR e ρ n) e.post m1).map fun m2 => (renV (outR e ρ n) e.v, m2, n + (freshOf e.n e.post).length) else none
section
variable [Ctx]
def Row (E : Env') (f : FuncId) (e : Ent) : Prop :=
 ∃ k v m' n', callFn E (exec E k) (.f f) e.vs (memOf e.pre) e.n = some (v, m', n') ∧ simV (inS e) e.v v = true ∧ ∀ p ∈ e.post, ∃ b, m'.get p.1 = some b ∧ simB (inS e) p.2 b = true
theorem blt_true {i n : Nat} (h : i < n) : Nat.blt i n = true := Nat.ble_eq_true_of_le h
theorem blt_false {i n : Nat} (h : n ≤ i) : Nat.blt i n = false := by
 cases hb : Nat.blt i n with
 | false => rfl
 | true => have : i + 1 ≤ n := nLb hb; omega
theorem useEnt_ok {P : Program} {E : Env'} (hE : EnvOk P E) {f : FuncId} {e : Ent} (hrow : Row E f e) {ρ : List (Nat × Nat)} {vs : List V} {m : Mem} {n : Nat} {v : V} {m' : Mem} {n' : Nat} (hu : useEnt e ρ vs m n = some (v, m', n')) :
  Mo m n m' n' ∧ ∀ β kn args w, MS β kn m w → VA β kn vs args → Fresh kn n n' →
  ∀ (r : Option Nat) (o : Oper) (a : Act) (next : Act → World → Prop) (Q : Exit → Act → World → Prop),
   (∀ β' x w', Goes β kn m w β' (KN kn n n') m' w' → VR β' (KN kn n n') v x → next (a.put o.dst x) w') → o.uponIn (FW r) 0 P a next Q ((callFunc f args).run P w) := by
 unfold useEnt at hu
 obtain ⟨hok, hu⟩ := bif_none hu
 simp only [oBs, oMs] at hu
 obtain ⟨m1, hd, m2, hp, heq⟩ := hu
 injection heq with hv heq; injection heq with hm2 hn'
 subst hv; subst hm2; subst hn'
 obtain ⟨k, v0, m0', n1, hrun, hsv, hpost⟩ := hrow
 obtain ⟨mo0, hc⟩ := call_ok hE k (.f f) e.vs (memOf e.pre) e.n v0 m0' n1 hrun
 unfold okIn at hok
 simp only [Bool.and_eq_true, List.all_eq_true] at hok
 obtain ⟨hvs, hpre, hinj, hlt⟩ := hok
 generalize hL : freshOf e.n e.post = L at *
 have hlt' : ∀ i j, lk ρ i = some j → i < e.n := fun i j h => nLb (hlt (i, j) (lk_mem h))
 have hout1 : ∀ i j, lk ρ i = some j → outR e ρ n i = j := fun i j h => by
  simp only [outR, blt_true (hlt' i j h), cond_true, h, orZ]
 have hLge : ∀ i a, pos i L n = some a → e.n ≤ i := fun i a h => freshOf_ge (l := e.post) (by rw [hL]; exact pos_mem h)
 have hout2 : ∀ i a, pos i L n = some a → outR e ρ n i = a := fun i a h => by
  simp only [outR, blt_false (hLge i a h), cond_false, hL, h, orZ]
 have hin : ∀ i b, (memOf e.pre).get i = some b → ∃ j c, lk ρ i = some j ∧ m.get j = some c ∧ simB (lk ρ) b c = true := fun i b h => preOk_ok (hpre _ (memOf_mem h))
 have hfrom : ∀ id b, m2.get id = some b → (∃ p ∈ e.post, outR e ρ n p.1 = id ∧ renB (outR e ρ n) p.2 = b) ∨ (m.get id = some b ∧ ∀ p ∈ e.pre, lk ρ p.1 ≠ some id) := fun id b h => by
  rcases putAll_get hp h with h1 | h1
  ·exact .inl h1
  ·exact .inr (dropAll_get hd h1)
 have hpn : ∀ p ∈ e.post, e.n ≤ p.1 → ∃ a, pos p.1 L n = some a := fun p hp1 h => pos_some (by rw [← hL]; exact mem_freshOf h hp1)
 refine ⟨⟨by omega, fun id b h => ?_⟩, fun β kn args w hms hva hfr r o a next Q hnext => ?_⟩
 ·rcases hfrom id b h with ⟨p, hp1, h1, _⟩ | ⟨h1, _⟩
  ·obtain ⟨c, hc1, _⟩ := hpost p hp1
   rcases mo0.2 _ _ hc1 with h2 | h2
   ·obtain ⟨d, hd1⟩ := Option.isSome_iff_exists.1 h2
    obtain ⟨j, c', hj, hj2, _⟩ := hin _ _ hd1
    rw [hout1 _ _ hj] at h1
    subst h1
    exact .inl (by rw [hj2]; rfl)
   ·obtain ⟨a, ha⟩ := hpn p hp1 h2.1
    rw [hout2 _ _ ha] at h1
    obtain ⟨q1, q2, _⟩ := pos_ok ha
    exact .inr (by omega)
  ·exact .inl (by rw [h1]; rfl)
 ·have hβ0 : ∃ β0 : Nat → Nat × Nat, ∀ i j, lk ρ i = some j → β0 i = β j := ⟨fun i => match lk ρ i with
   | some j => β j
   | none => (0, 0), fun i j h => by simp only [h]⟩
  obtain ⟨β0, hβ0⟩ := hβ0
  let kn0 : Nat → Prop := fun i => ∃ j, lk ρ i = some j ∧ kn j
  have hr : ∀ i i', lk ρ i = some i' → kn i' → kn0 i ∧ β0 i = β i' := fun i i' h hk => ⟨⟨i', h, hk⟩, hβ0 i i' h⟩
  have hms0 : MS β0 kn0 (memOf e.pre) w := by
   refine ⟨fun i b h => ?_, fun i j b c h1 h2 h3 => ?_, fun q hq => ⟨(hms.gl q hq).1, fun i b h => ?_⟩⟩
   ·obtain ⟨i', c, g1, g2, g3⟩ := hin i b h
    obtain ⟨q1, q2⟩ := hms.blk _ _ g2
    refine ⟨⟨i', g1, q1⟩, ?_⟩
    rw [hβ0 i i' g1]
    exact q2.sim hr g3
   ·obtain ⟨i', c1, g1, g2, _⟩ := hin i b h1
    obtain ⟨j', c2, g4, g5, _⟩ := hin j c h2
    rw [hβ0 i i' g1, hβ0 j j' g4] at h3
    have := hms.inj _ _ _ _ g2 g5 h3
    subst this
    exact injB_ok hinj (lk_mem g1) (lk_mem g4)
   ·obtain ⟨i', c, g1, g2, g3⟩ := hin i b h
    rw [hβ0 i i' g1]; exact (hms.gl q hq).2 i' c g2
  have hva0 : VA β0 kn0 e.vs args := by
   obtain ⟨g1, g2⟩ := simL_ok hr hvs
   refine ⟨by rw [hva.1, g1], fun i u x e1 e2 => ?_⟩
   obtain ⟨u', hu'⟩ : ∃ u', vs[i]? = some u' := by
    have : i < vs.length := by have := (gEs e1).1; omega
    exact ⟨_, List.getElem?_eq_getElem this⟩
   exact g2 i u u' x e1 hu' (hva.2 i u' x hu' e2)
  have hfr0 : Fresh kn0 e.n n1 := fun i h1 h2 ⟨j, hj, _⟩ => by have := hlt' i j hj; omega
  refine hc β0 kn0 args w hms0 hva0 trivial hfr0 r o a next Q fun β0' x w' hg hx => ?_
  have hβ' : ∃ β' : Nat → Nat × Nat, (∀ i a, pos i L n = some a → β' a = β0' i) ∧ ∀ i, ¬ (n ≤ i ∧ i < n + L.length) → β' i = β i :=
   ⟨fun i => if n ≤ i ∧ i < n + L.length then β0' (L.getD (i - n) 0) else β i, fun i a h => by
    obtain ⟨q1, q2, q3⟩ := pos_ok h
    show (if n ≤ a ∧ a < n + L.length then β0' (L.getD (a - n) 0) else β a) = _
    rw [if_pos ⟨q1, q2⟩]
    congr 1
    simp [List.getD, q3], fun i h => if_neg h⟩
  obtain ⟨β', hb1, hb2⟩ := hβ'
  have hold : ∀ i, kn i → β' i = β i := fun i hi => hb2 i fun h => hfr i h.1 h.2 hi
  let kn1 : Nat → Prop := fun i => kn0 i ∨ ∃ a, pos i L n = some a
  have hren : ∀ i, kn1 i → KN kn n (n + L.length) (outR e ρ n i) ∧ β' (outR e ρ n i) = β0' i := by
   intro i hi
   rcases hi with hi | ⟨a, hi⟩
   ·obtain ⟨j, hj, hk⟩ := id hi
    rw [hout1 i j hj]
    refine ⟨.inl hk, ?_⟩
    rw [hold j hk, (hg.ext i hi).2, hβ0 i j hj]
   ·rw [hout2 i a hi]
    obtain ⟨q1, q2, _⟩ := pos_ok hi
    exact ⟨.inr ⟨q1, q2⟩, hb1 i a hi⟩
  have hsome : ∀ i i', inS e i = some i' → KN kn0 e.n n1 i' → kn1 i ∧ β0' i = β0' i' := fun i i' h hk => by
   unfold inS at h
   rw [hL] at h
   cases hb : Nat.blt i e.n with
   | true =>
    rw [hb] at h
    simp only [cond_true, oSi] at h; subst h
    have hlt1 : i < e.n := nLb hb
    rcases hk with hk | hk
    ·exact ⟨.inl hk, rfl⟩
    ·omega
   | false =>
    rw [hb] at h
    simp only [cond_false, oMs] at h
    obtain ⟨a, ha, rfl⟩ := h
    exact ⟨.inr (pos_some (pos_mem ha)), rfl⟩
  have hkn1 : ∀ p ∈ e.post, KN kn0 e.n n1 p.1 → kn1 p.1 := fun p hp1 h => by
   rcases h with h | h
   ·exact .inl h
   ·exact .inr (hpn p hp1 h.1)
  have hpost' : ∀ p ∈ e.post, kn1 p.1 ∧ ∃ c, m0'.get p.1 = some c ∧ BR β' (KN kn n (n + L.length)) (β0' p.1).2 (renB (outR e ρ n) p.2) (w'.heap[(β0' p.1).1]?) := fun p hp1 => by
   obtain ⟨c, hc1, hc2⟩ := hpost p hp1
   obtain ⟨q1, q2⟩ := hg.ms.blk _ _ hc1
   exact ⟨hkn1 p hp1 q1, c, hc1, (q2.sim (b0 := p.2) (r := inS e) hsome hc2).ren hren hc2⟩
  have hfr1 : ∀ j b, m.get j = some b → (∀ p ∈ e.pre, lk ρ p.1 ≠ some j) → ∀ i c, (memOf e.pre).get i = some c → (β0 i).1 ≠ (β j).1 := fun j b h1 h2 i c h3 h4 => by
   obtain ⟨i', c', g1, g2, _⟩ := hin i c h3
   rw [hβ0 i i' g1] at h4
   have := hms.inj _ _ _ _ g2 h1 h4
   subst this
   exact h2 _ (memOf_mem h3) g1
  have hmix : ∀ p ∈ e.post, ∀ j b, m.get j = some b → (∀ p ∈ e.pre, lk ρ p.1 ≠ some j) → (β0' p.1).1 ≠ (β j).1 := fun p hp1 j b h1 h2 h3 => by
   obtain ⟨_, c, hc1, _⟩ := hpost' p hp1
   rcases hg.fr.grow _ _ hc1 with ⟨i, d, g1, g2⟩ | g1
   ·exact hfr1 j b h1 h2 i d g1 (by rw [g2, h3])
   ·have := (hms.blk j b h1).2.lt
    omega
  refine hnext β' (x := x) w' ⟨fun i hi => ⟨.inl hi, hold i hi⟩, ⟨hg.fr.os, hg.fr.tape, hg.fr.output, hg.fr.size, fun b hb hno => ?_, fun id c h => ?_⟩, ⟨fun id b h => ?_, fun i j b c h1 h2 h3 => ?_, fun q hq => ⟨(hg.ms.gl q hq).1, fun id c h => ?_⟩⟩⟩ ((simV_ok hsome hsv hx).ren hren)
  ·refine hg.fr.block b hb fun i c h => ?_
   obtain ⟨i', c', g1, g2, _⟩ := hin i c h
   rw [hβ0 i i' g1]; exact hno _ _ g2
  ·rcases hfrom id c h with ⟨p, hp1, h1, _⟩ | ⟨h1, _⟩
   ·obtain ⟨q1, d, hd1, _⟩ := hpost' p hp1
    rw [← h1, (hren _ q1).2]
    rcases hg.fr.grow _ _ hd1 with ⟨i, d', g1, g2⟩ | g1
    ·obtain ⟨i', c', g3, g4, _⟩ := hin i d' g1
     exact .inl ⟨i', c', g4, by rw [← hβ0 i i' g3]; exact g2⟩
    ·exact .inr g1
   ·exact .inl ⟨id, c, h1, by rw [hold id (hms.blk id c h1).1]⟩
  ·rcases hfrom id b h with ⟨p, hp1, h1, h2⟩ | ⟨h1, h2⟩
   ·obtain ⟨q1, d, hd1, hd2⟩ := hpost' p hp1
    rw [← h1, ← h2, (hren _ q1).2]
    exact ⟨(hren _ q1).1, hd2⟩
   ·obtain ⟨q1, q2⟩ := hms.blk id b h1
    refine ⟨.inl q1, ?_⟩
    rw [hold id q1, hg.fr.block _ q2.lt (fun i c h3 => hfr1 id b h1 h2 i c h3)]
    exact q2.mono fun i hi => ⟨.inl hi, hold i hi⟩
  ·rcases hfrom i b h1 with ⟨p, hp1, g1, _⟩ | ⟨g1, g2⟩ <;> rcases hfrom j c h2 with ⟨q, hq1, g3, _⟩ | ⟨g3, g4⟩
   ·obtain ⟨u1, d1, u2, _⟩ := hpost' p hp1
    obtain ⟨u3, d2, u4, _⟩ := hpost' q hq1
    rw [← g1, ← g3, (hren _ u1).2, (hren _ u3).2] at h3
    rw [← g1, ← g3, hg.ms.inj _ _ _ _ u2 u4 h3]
   ·obtain ⟨u1, d1, u2, _⟩ := hpost' p hp1
    rw [← g1, (hren _ u1).2, hold j (hms.blk j c g3).1] at h3
    exact absurd h3 (hmix p hp1 j c g3 g4)
   ·obtain ⟨u1, d1, u2, _⟩ := hpost' q hq1
    rw [← g3, (hren _ u1).2, hold i (hms.blk i b g1).1] at h3
    exact absurd h3.symm (hmix q hq1 i b g1 g2)
   ·rw [hold i (hms.blk i b g1).1, hold j (hms.blk j c g3).1] at h3
    exact hms.inj _ _ _ _ g1 g3 h3
  ·rcases hfrom id c h with ⟨p, hp1, h1, _⟩ | ⟨h1, _⟩
   ·obtain ⟨q1, d, hd1, _⟩ := hpost' p hp1
    rw [← h1, (hren _ q1).2]
    exact (hg.ms.gl q hq).2 _ _ hd1
   ·rw [hold id (hms.blk id c h1).1]
    exact (hms.gl q hq).2 id c h1
theorem fam_ok {P : Program} {E : Env'} (hE : EnvOk P E) {f : FuncId} {F : List V → Mem → Nat → Option (V × Mem × Nat)} (h : ∀ vs m n r, F vs m n = some r → ∃ e ρ, Row E f e ∧ useEnt e ρ vs m n = some r) : MSpec P f F := by
 intro vs m n v m' n' hF
 obtain ⟨e, ρ, h1, h2⟩ := h vs m n _ hF
 exact useEnt_ok hE h1 h2
end
def preB (i : Nat) : List (Nat × B) → Option B
 | [] => none
 | p :: l => bif Nat.beq p.1 i then some p.2 else preB i l
def zipV : List V → List V → List (V × V) → List (V × V)
 | v :: l, v' :: l', r => (v, v') :: zipV l l' r
 | _, _, r => r
def zipB (b : Option B) (c : Option B) (r : List (V × V)) : List (V × V) := match b, c with
 | some (.cells l _), some (.cells l' _) => zipV l l' r
 | some (.ro l), some (.ro l') => zipV l l' r
 | _, _ => r
def idOf : V → Option Nat
 | .ptr i _ => some i
 | .sl i _ _ _ _ => some i
 | .mp i => some i
 | _ => none
def findR2 (pre : List (Nat × B)) (m : Mem) : Nat → List (V × V) → List (Nat × Nat) → List (Nat × Nat)
 | 0, _, acc => acc
 | k + 1, l, acc => match l with
  | [] => acc
  | (v0, v) :: r => match v0, v with
   | .agg l, .agg l' => findR2 pre m k (zipV l l' r) acc
   | .tup l, .tup l' => findR2 pre m k (zipV l l' r) acc
   | .ifc _ x, .ifc _ y => findR2 pre m k ((x, y) :: r) acc
   | .fn _ a b, .fn _ a' b' => findR2 pre m k (zipV a a' (zipV b b' r)) acc
   | v0, v => match idOf v0, idOf v with
    | some i, some j => match lk acc i with
     | some _ => findR2 pre m k r acc
     | none => findR2 pre m k (zipB (preB i pre) (m.get j) r) ((i, j) :: acc)
    | _, _ => findR2 pre m k r acc
def tryEnt (e : Ent) (vs : List V) (m : Mem) (n : Nat) : Option (V × Mem × Nat) := useEnt e (findR2 e.pre m 100000 (zipV e.vs vs []) []) vs m n
def deepF : List Ent → List V → Mem → Nat → Option (V × Mem × Nat)
 | [], _, _, _ => none
 | e :: l, vs, m, n => match tryEnt e vs m n with
  | some r => some r
  | none => deepF l vs m n
theorem deepF_ok {f : FuncId} [Ctx] {E : Env'} : ∀ {l : List Ent}, (∀ e ∈ l, Row E f e) → ∀ vs m n r, deepF l vs m n = some r → ∃ e ρ, Row E f e ∧ useEnt e ρ vs m n = some r
 | [], _, vs, m, n, r, h => by cases h
 | e :: l, hl, vs, m, n, r, h => by
  unfold deepF at h
  split at h
  ·rename_i q hq
   injection h with h; subst h
   exact ⟨e, _, hl e (List.mem_cons_self ..), hq⟩
  ·exact deepF_ok (fun e he => hl e (List.mem_cons_of_mem _ he)) vs m n r h
theorem deep_ok [Ctx] {P : Program} {E : Env'} (hE : EnvOk P E) {f : FuncId} {l : List Ent} (hl : ∀ e ∈ l, Row E f e) : MSpec P f (deepF l) := fam_ok hE (deepF_ok hl)
def chkPost (e : Ent) (m' : Mem) : List (Nat × B) → Bool
 | [] => true
 | p :: l => (match m'.get p.1 with
  | some b => simB (inS e) p.2 b
  | none => false) && chkPost e m' l
theorem chkPost_ok {e : Ent} {m' : Mem} : ∀ {l : List (Nat × B)}, chkPost e m' l = true → ∀ p ∈ l, ∃ b, m'.get p.1 = some b ∧ simB (inS e) p.2 b = true
 | [], _, p, hp => by simp at hp
 | q :: l, h, p, hp => by
  simp only [chkPost, Bool.and_eq_true] at h
  rcases List.mem_cons.1 hp with rfl | hp
  ·have := h.1
   split at this
   ·rename_i b hb; exact ⟨b, hb, this⟩
   ·cases this
  ·exact chkPost_ok h.2 p hp
def chkRow (e : Ent) (o : Option (V × Mem × Nat)) : Bool := match o with
 | some (v, m', _) => simV (inS e) e.v v && chkPost e m' e.post
 | none => false
theorem row_of_chk [Ctx] {E : Env'} {f : FuncId} {e : Ent} {o : Option (V × Mem × Nat)} (ho : ∀ r, o = some r → ∃ k, callFn E (exec E k) (.f f) e.vs (memOf e.pre) e.n = some r) (h : chkRow e o = true) : Row E f e := by
 unfold chkRow at h
 split at h
 ·rename_i v m' n'
  obtain ⟨k, hk⟩ := ho _ rfl
  simp only [Bool.and_eq_true] at h
  exact ⟨k, v, m', n', hk, h.1, chkPost_ok h.2⟩
 ·cases h
end Go.Fm
end
