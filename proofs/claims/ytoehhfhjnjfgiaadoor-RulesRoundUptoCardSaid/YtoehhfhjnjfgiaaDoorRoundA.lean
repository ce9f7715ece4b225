/- Part of a proof of the statement Round; what it needs in which order stands in GOCLAIM.json. -/
import Derived.Calls
import Derived.Laws.AppendOwn
import Derived.Below
import Derived.Lib.ItoaNum
import Derived.Laws.Cells
import Derived.Laws.Entries
import Derived.Maps.AppendAt
import Derived.Deep.Upon
import Derived.MapKept
set_option linter.unusedVariables false
set_option linter.unusedSimpArgs false
namespace Go.DL
open Go
inductive D where
  | lit (v : Value)
  | agg (xs : List D)
  | sl (xs : List D)
  | row (id ver : Nat)
  | ptr (id off : Nat)
  | rel (id ver j o : Nat)
  | el (ys : List D)
  | mp (id : Nat)
  | it (id : Nat)
  | tup (xs : List D)
  | fn (f : FuncId) (caps : List D)
  | nn
  | junk
  deriving Inhabited
def D.leaves : D → List D
  | .agg ys => ys
  | d => [d]
def D.one : D → Bool
  | .agg _ | .tup _ | .junk => false
  | .lit v => v.oneCell'
  | _ => true
inductive O where
  | row (x : Bool) (ver : Nat) (e : TypeId) (s : Nat) (xs : List D)
  | box (e : TypeId) (ys : List D)
  | map (mv : Nat) (es : List (Value × D))
  | iter (m mv : Nat) (left : List (Value × D)) (cur : Option (Value × D))
  deriving Inhabited
def O.kind : O → Nat × Nat
  | .row _ _ _ s _ => (0, s)
  | .box .. => (1, 0)
  | .map .. => (2, 0)
  | .iter .. => (3, 0)
def O.ver : O → Nat
  | .row _ v .. => v
  | _ => 0
structure Conc where
  Φ : Addr → Option Value
  κ : Nat → Value
inductive RdV (c : Conc) (H : List O) : D → Value → Prop
  | lit (v : Value) : RdV c H (.lit v) v
  | agg (xs : List D) (cs : Array Value) (hn : cs.size = xs.length) (h1 : ∀ i (h : i < xs.length), (xs[i]'h).one = true)
      (hr : ∀ i (h : i < xs.length), RdV c H (xs[i]'h) (cs.getD i undef)) : RdV c H (.agg xs) (.agg cs)
  | sl (xs : List D) (a : Option Addr) (ad : Addr) (cap s : Nat) (vs : Nat → Nat → Value) (hcap : xs.length ≤ cap)
      (ha : 0 < xs.length → a = some ad) (hs : ∀ j (h : j < xs.length), (xs[j]'h).leaves.length = s)
      (h1 : ∀ j (h : j < xs.length) i (h' : i < (xs[j]'h).leaves.length), ((xs[j]'h).leaves[i]'h').one = true)
      (hΦ : ∀ j (h : j < xs.length) i (h' : i < (xs[j]'h).leaves.length), c.Φ (ad.add (j * s + i)) = some (vs j i))
      (hr : ∀ j (h : j < xs.length) i (h' : i < (xs[j]'h).leaves.length), RdV c H ((xs[j]'h).leaves[i]'h') (vs j i)) :
      RdV c H (.sl xs) (.slice a xs.length cap)
  | el (ys : List D) (ad : Addr) (vs : Nat → Value) (h1 : ∀ i (h : i < ys.length), (ys[i]'h).one = true)
      (hΦ : ∀ i (h : i < ys.length), c.Φ (ad.add i) = some (vs i)) (hr : ∀ i (h : i < ys.length), RdV c H (ys[i]'h) (vs i)) :
      RdV c H (.el ys) (.pointer (some ad))
  | row (id ver s : Nat) (o : O) (a : Option Addr) (n cap : Nat) (ho : H[id]? = some o) (hk : o.kind = (0, s)) (hv : ver ≤ o.ver) (he : ver = o.ver → Value.slice a n cap = c.κ id) :
      RdV c H (.row id ver) (.slice a n cap)
  | rel (id ver j k s : Nat) (o : O) (ad : Addr) (ho : H[id]? = some o) (hk : o.kind = (0, s)) (hv : ver ≤ o.ver)
      (he : ver = o.ver → ∃ g n cap, c.κ id = .slice (some ⟨g, 0, none⟩) n cap ∧ ad = ⟨g, j * s + k, none⟩) : RdV c H (.rel id ver j k) (.pointer (some ad))
  | ptr (id off b : Nat) (o : O) (ho : H[id]? = some o) (hk : o.kind = (1, 0)) (hv : o.ver = 0) (he : c.κ id = .pointer (some ⟨b, 0, none⟩)) : RdV c H (.ptr id off) (.pointer (some ⟨b, off, none⟩))
  | mp (id b : Nat) (o : O) (ho : H[id]? = some o) (hk : o.kind = (2, 0)) (hv : o.ver = 0) (he : c.κ id = .map (some b)) : RdV c H (.mp id) (.map (some b))
  | it (id b : Nat) (o : O) (ho : H[id]? = some o) (hk : o.kind = (3, 0)) (hv : o.ver = 0) (he : c.κ id = .pointer (some ⟨b, 0, none⟩)) : RdV c H (.it id) (.pointer (some ⟨b, 0, none⟩))
  | tup (xs : List D) (vs : Array Value) (hn : vs.size = xs.length) (hr : ∀ i (h : i < xs.length), RdV c H (xs[i]'h) (vs.getD i undef)) : RdV c H (.tup xs) (.tuple vs)
  | fn (f : FuncId) (caps : List D) (vs : Array Value) (hn : vs.size = caps.length) (hr : ∀ i (h : i < caps.length), RdV c H (caps[i]'h) (vs.getD i undef)) : RdV c H (.fn f caps) (.func (.func f) #[] vs)
  | nn (t : TypeId) (v : Value) : RdV c H .nn (.iface t v)
  | junk (v : Value) : RdV c H .junk v
theorem RdV.oneCell {c : Conc} {H : List O} {d : D} {v : Value} (h : RdV c H d v) (h1 : d.one = true) : v.oneCell' = true := by
  cases h <;> first | exact h1 | rfl | (simp [D.one] at h1; done)
structure Ext (c : Conc) (H : List O) (c' : Conc) (H' : List O) : Prop where
  Φ : ∀ a v, c.Φ a = some v → c'.Φ a = some v
  obj : ∀ id o, H[id]? = some o → ∃ o', H'[id]? = some o' ∧ o'.kind = o.kind ∧ o.ver ≤ o'.ver ∧ (o.ver = o'.ver → c'.κ id = c.κ id)
theorem Ext.refl (c : Conc) (H : List O) : Ext c H c H := ⟨fun _ _ h => h, fun _ o h => ⟨o, h, rfl, Nat.le_refl _, fun _ => rfl⟩⟩
theorem Ext.trans {c c' c'' : Conc} {H H' H'' : List O} (h : Ext c H c' H') (k : Ext c' H' c'' H'') : Ext c H c'' H'' :=
  ⟨fun a v q => k.Φ a v (h.Φ a v q), fun id o ho => by
    obtain ⟨o', h1, h2, h3, h4⟩ := h.obj id o ho
    obtain ⟨o'', k1, k2, k3, k4⟩ := k.obj id o' h1
    exact ⟨o'', k1, k2.trans h2, Nat.le_trans h3 k3, fun e => (k4 (by omega)).trans (h4 (by omega))⟩⟩
theorem O.ver_zero {o : O} {k : Nat} (h : o.kind = (k + 1, 0)) : o.ver = 0 := by cases o <;> simp_all [O.kind, O.ver]
theorem RdV.ext {c c' : Conc} {H H' : List O} (e : Ext c H c' H') {d : D} {v : Value} (h : RdV c H d v) : RdV c' H' d v := by
  induction h with
  | lit v => exact .lit v
  | agg xs cs hn h1 _ ih => exact .agg xs cs hn h1 ih
  | sl xs a ad cap s vs hcap ha hs h1 hΦ _ ih => exact .sl xs a ad cap s vs hcap ha hs h1 (fun j h i h' => e.Φ _ _ (hΦ j h i h')) ih
  | el ys ad vs h1 hΦ _ ih => exact .el ys ad vs h1 (fun i h => e.Φ _ _ (hΦ i h)) ih
  | row id ver s o a n cap ho hk hv he =>
    obtain ⟨o', k1, k2, k3, k4⟩ := e.obj id o ho
    exact .row id ver s o' a n cap k1 (k2.trans hk) (by omega) fun q => by rw [k4 (by omega)]; exact he (by omega)
  | rel id ver j k s o ad ho hk hv he =>
    obtain ⟨o', k1, k2, k3, k4⟩ := e.obj id o ho
    exact .rel id ver j k s o' ad k1 (k2.trans hk) (by omega) fun q => by rw [k4 (by omega)]; exact he (by omega)
  | ptr id off b o ho hk hv he =>
    obtain ⟨o', k1, k2, k3, k4⟩ := e.obj id o ho
    have := O.ver_zero (k2.trans hk)
    exact .ptr id off b o' k1 (k2.trans hk) this (by rw [k4 (by omega)]; exact he)
  | mp id b o ho hk hv he =>
    obtain ⟨o', k1, k2, k3, k4⟩ := e.obj id o ho
    have := O.ver_zero (k2.trans hk)
    exact .mp id b o' k1 (k2.trans hk) this (by rw [k4 (by omega)]; exact he)
  | it id b o ho hk hv he =>
    obtain ⟨o', k1, k2, k3, k4⟩ := e.obj id o ho
    have := O.ver_zero (k2.trans hk)
    exact .it id b o' k1 (k2.trans hk) this (by rw [k4 (by omega)]; exact he)
  | tup xs vs hn _ ih => exact .tup xs vs hn ih
  | fn f caps vs hn _ ih => exact .fn f caps vs hn ih
  | nn t v => exact .nn t v
  | junk v => exact .junk v
def blk : Value → Option Nat
  | .slice (some a) _ _ => some a.block
  | .pointer (some a) => some a.block
  | .map (some b) => some b
  | _ => none
def flat (xs : List D) : List D := xs.flatMap D.leaves
def Entries (c : Conc) (H : List O) (es : List (Value × D)) (ms : Array MapEntry) : Prop :=
  ms.size = es.length ∧ ∀ i (h : i < es.length), (ms.toList.getD i default).key = (es[i]'h).1 ∧ RdV c H (es[i]'h).2 (ms.toList.getD i default).val
def OOk (c : Conc) (H : List O) (w : World) (id : Nat) : O → Prop
  | .row x _ e s xs => 0 < s ∧ (∀ y ∈ xs, y.leaves.length = s ∧ ∀ z ∈ y.leaves, z.one = true) ∧ ∃ cells : List Value, w.ownsRow 0 e s (c.κ id) xs.length cells ∧
      (∀ k (h : k < (flat xs).length), RdV c H ((flat xs)[k]'h) (cells.getD k undef)) ∧
      ∀ g, blk (c.κ id) = some g → (∀ a v, c.Φ a = some v → a.block = g → x = false ∧ a.off < xs.length * s) ∧ (x = false → ∀ k, k < xs.length * s → c.Φ ⟨g, k, none⟩ = cells[k]?)
  | .box e ys => ∃ b cs, c.κ id = .pointer (some ⟨b, 0, none⟩) ∧ w.heap[b]? = some (.cells cs e (0, 0)) ∧ cs.size = ys.length ∧ (∀ i (h : i < ys.length), RdV c H (ys[i]'h) (cs.getD i undef)) ∧ (∀ z ∈ ys, z.one = true) ∧
      ∀ a v, c.Φ a = some v → a.block ≠ b
  | .map _ es => ∃ b ms clock, c.κ id = .map (some b) ∧ w.heap[b]? = some (.map ms clock) ∧ Entries c H es ms ∧ (ms.toList.map (·.born)).Nodup ∧ (∀ m ∈ ms.toList, m.born < clock)
  | .iter m mv left cur => ∃ b bm since seen last ver es, c.κ id = .pointer (some ⟨b, 0, none⟩) ∧ w.heap[b]? = some (.mapIter (some bm) since seen last) ∧ c.κ m = .map (some bm) ∧ H[m]? = some (.map ver es) ∧ mv ≤ ver ∧
      (mv = ver → ∃ ms, w.heap[bm]? = some (.map ms since) ∧ last = since ∧ ms.size = es.length ∧ left = ((es.zip ms.toList).filter fun p => !seen.contains p.2.born).map (·.1) ∧
        (∀ k d, cur = some (k, d) → ∃ i, ∃ h : i < es.length, es[i]'h = (k, d) ∧ seen.back? = some (ms.toList.getD i default).born))
def tabAt : Nat := 4
structure Frm where
  w0 : World
  prot : Nat → Prop
  lt : ∀ b, prot b → b < w0.heap.size
  tab : prot tabAt ∧ ∃ e fz, w0.heap[tabAt]? = some (.cells (Lib.pow10Tab.map fun z => Value.int .u64 z).toArray e fz)
structure Keeps (F : Frm) (w : World) : Prop where
  os : w.os = F.w0.os
  tape : w.tape = F.w0.tape
  output : w.output = F.w0.output
  size : F.w0.heap.size ≤ w.heap.size
  block : ∀ b, F.prot b → w.heap[b]? = F.w0.heap[b]?
structure RelH (F : Frm) (c : Conc) (H : List O) (w : World) : Prop where
  good : ∀ a v, c.Φ a = some v → w.cell? a = some v
  objs : ∀ id o, H[id]? = some o → OOk c H w id o
  apart : ∀ i j b, i < H.length → j < H.length → blk (c.κ i) = some b → blk (c.κ j) = some b → i = j
  free : ∀ i b, i < H.length → blk (c.κ i) = some b → ¬ F.prot b
  keeps : Keeps F w
end Go.DL
set_option linter.unusedVariables false
set_option linter.unusedSimpArgs false
namespace Go.DL
open Go
structure St where
  s : Nat → D
  H : List O
def upd (s : Nat → D) (i : Nat) (d : D) : Nat → D := fun j => if j = i then d else s j
structure Rel (G : Nat → D) (F : Frm) (n : Nat) (c : Conc) (σ : St) (a : Act) (w : World) : Prop where
  defers : a.defers = []
  size : a.tmps.size = n
  slots : ∀ i, RdV c σ.H (σ.s i) (a.tmps.getD i undef)
  glob : ∀ g, RdV c σ.H (G g) (.pointer (some ⟨g, 0, none⟩))
  hp : RelH F c σ.H w
def Callable (P : Program) (f : FuncId) : Prop := ∃ fn, P.funcs[f]? = some fn ∧ (fn.name == "runtime.NumGoroutine") = false ∧ fn.body.isSome = true
def CallA (P : Program) (G : Nat → D) (f : FuncId) (ds : List D) (H : List O) (Q : D → List O → Prop) : Prop :=
  Callable P f ∧ ∀ (F : Frm) (c : Conc) (w : World) (vs : Array Value), RelH F c H w → (∀ g, RdV c H (G g) (.pointer (some ⟨g, 0, none⟩))) → vs.size = ds.length → (∀ i (h : i < ds.length), RdV c H (ds[i]'h) (vs.getD i undef)) →
    Calls P f vs w fun e w' => ∃ v d c' H', e = .returned v ∧ RelH F c' H' w' ∧ Ext c H c' H' ∧ RdV c' H' d v ∧ Q d H'
theorem CallA.mono {P : Program} {G : Nat → D} {f : FuncId} {ds : List D} {H : List O} {Q Q' : D → List O → Prop} (h : CallA P G f ds H Q) (hq : ∀ d H', Q d H' → Q' d H') : CallA P G f ds H Q' :=
  ⟨h.1, fun F c w vs h1 h2 h3 h4 => (h.2 F c w vs h1 h2 h3 h4).mono fun e w' ⟨v, d, c', H', k1, k2, k3, k4, k5⟩ => ⟨v, d, c', H', k1, k2, k3, k4, hq _ _ k5⟩⟩
def OpA (P : Program) (G : Nat → D) (o : Oper) (s : Nat → D) (H : List O) (K : D → List O → Prop) : Prop :=
  ∀ (F : Frm) (n : Nat) (c : Conc) (a : Act) (w : World), Rel G F n c ⟨s, H⟩ a w →
    (∃ v w' c' H' d, (execOp a.eval o).run P w = .ok (.value v) w' ∧ RelH F c' H' w' ∧ Ext c H c' H' ∧ RdV c' H' d v ∧ K d H') ∨
    (∃ w' c' H', (execOp a.eval o).run P w = .ok .skip w' ∧ RelH F c' H' w' ∧ Ext c H c' H' ∧ K (.lit undef) H') ∨
    (∃ f vs ds w', (execOp a.eval o).run P w = .ok (.enter f vs) w' ∧ RelH F c H w' ∧ vs.size = ds.length ∧ (∀ i (h : i < ds.length), RdV c H (ds[i]'h) (vs.getD i undef)) ∧ CallA P G f ds H K)
def St.put (σ : St) (dst : Option Nat) (d : D) (H : List O) : St :=
  match dst with
  | some i => ⟨upd σ.s i d, H⟩
  | none => ⟨σ.s, H⟩
theorem Rel.put {G : Nat → D} {F : Frm} {n : Nat} {c c' : Conc} {σ : St} {a : Act} {w w' : World} {H' : List O} (h : Rel G F n c σ a w) (hp : RelH F c' H' w') (he : Ext c σ.H c' H') (dst : Option Nat) (hd : ∀ i, dst = some i → i < n)
    {d : D} {v : Value} (hv : RdV c' H' d v) : Rel G F n c' (σ.put dst d H') (a.put dst v) w' := by
  cases dst with
  | none => exact ⟨h.defers, h.size, fun i => (h.slots i).ext he, fun g => (h.glob g).ext he, hp⟩
  | some k =>
    have hk := hd k rfl
    refine ⟨h.defers, by simp [Act.put, h.size], fun i => ?_, fun g => (h.glob g).ext he, hp⟩
    simp only [St.put, Act.put, upd]
    by_cases hi : i = k
    · subst hi
      have : i < a.tmps.size := by rw [h.size]; exact hk
      simp [Array.getD, this]
      exact hv
    · rw [if_neg hi]
      have hg : (a.tmps.setIfInBounds k v).getD i undef = a.tmps.getD i undef := by
        simp only [Array.getD_eq_getD_getElem?]
        rw [Array.getElem?_setIfInBounds_ne (by omega)]
      rw [hg]
      exact (h.slots i).ext he
def OpsA (P : Program) (G : Nat → D) (n : Nat) (ops : Array Oper) (l : List Nat) (σ : St) (K : St → Prop) : Prop :=
  ∀ (F : Frm) (c : Conc) (a : Act) (w : World), Rel G F n c σ a w → ∀ Q : Exit → Act → World → Prop,
    (∀ σ' c' a' w', Rel G F n c' σ' a' w' → Ext c σ.H c' σ'.H → K σ' → Q .normal a' w') → wpOps P ops Q l a w
theorem OpsA.nil {P : Program} {G : Nat → D} {n : Nat} {ops : Array Oper} {σ : St} {K : St → Prop} (h : K σ) : OpsA P G n ops [] σ K :=
  fun F c a w hr Q hQ => hQ σ c a w hr (Ext.refl _ _) h
def guardIs (ops : Array Oper) (s : Nat → D) (o : Oper) (b : Bool) : Prop :=
  match o.guard with
  | none => b = true
  | some (j, want) => ∃ i, (ops[j]?).bind (·.dst) = some i ∧ ((∃ x, s i = .lit (.bool x) ∧ b = (x == want)) ∨ (s i = .lit undef ∧ b = false))
theorem guard_wanted {G : Nat → D} {F : Frm} {n : Nat} {c : Conc} {σ : St} {a : Act} {w : World} {ops : Array Oper} {o : Oper} {b : Bool} (hr : Rel G F n c σ a w) (h : guardIs ops σ.s o b) (hn : ∀ j want i, o.guard = some (j, want) → (ops[j]?).bind (·.dst) = some i → i < n) :
    Region.wanted o (yielded ops a.tmps) = b := by
  unfold guardIs at h
  unfold Region.wanted
  cases hg : o.guard with
  | none => rw [hg] at h; simp [h]
  | some p =>
    obtain ⟨j, want⟩ := p
    rw [hg] at h
    obtain ⟨i, hi, h⟩ := h
    have hin : i < a.tmps.size := by rw [hr.size]; exact hn j want i hg hi
    have hs := hr.slots i
    simp only [yielded, hi, Option.bind_some, Array.getElem?_eq_getElem hin]
    rw [Array.getD_eq_getD_getElem?, Array.getElem?_eq_getElem hin, Option.getD_some] at hs
    rcases h with ⟨x, hx, rfl⟩ | ⟨hx, rfl⟩
    · rw [hx] at hs
      generalize a.tmps[i] = v at hs
      cases hs
      cases x <;> cases want <;> rfl
    · rw [hx] at hs
      generalize a.tmps[i] = v at hs
      cases hs
      rfl
theorem OpsA.cons {P : Program} {G : Nat → D} {n : Nat} {ops : Array Oper} {i : Nat} {rest : List Nat} {σ : St} {K : St → Prop} {o : Oper} (ho : ops[i]? = some o)
    (hd : ∀ k, o.dst = some k → k < n) (hg : guardIs ops σ.s o true) (hn : ∀ j want i, o.guard = some (j, want) → (ops[j]?).bind (·.dst) = some i → i < n)
    (h : OpA P G o σ.s σ.H fun d H' => OpsA P G n ops rest (σ.put o.dst d H') K) : OpsA P G n ops (i :: rest) σ K := by
  intro F c a w hr Q hQ
  simp only [wpOps, ho]
  rw [if_pos (guard_wanted hr hg hn)]
  refine .inl ?_
  unfold Oper.wp
  rcases h F n c a w hr with ⟨v, w', c', H', d, hx, h1, h2, h3, h4⟩ | ⟨w', c', H', hx, h1, h2, h4⟩ | ⟨f, vs, ds, w', hx, h1, h2, h3, h4⟩
  · rw [hx]
    exact h4 F c' _ w' (hr.put h1 h2 _ hd h3) Q fun σ' c'' a' w'' k1 k2 k3 => hQ σ' c'' a' w'' k1 (h2.trans (by cases hdst : o.dst <;> simpa [St.put, hdst] using k2)) k3
  · rw [hx]
    exact h4 F c' _ w' (hr.put h1 h2 _ hd (.lit _)) Q fun σ' c'' a' w'' k1 k2 k3 => hQ σ' c'' a' w'' k1 (h2.trans (by cases hdst : o.dst <;> simpa [St.put, hdst] using k2)) k3
  · rw [hx]
    refine (h4.2 F c w' vs h1 hr.glob h2 h3).mono ?_
    rintro e w'' ⟨v, d, c', H', rfl, k1, k2, k3, k4⟩
    exact k4 F c' _ w'' (hr.put k1 k2 _ hd k3) Q fun σ' c'' a' w3 j1 j2 j3 => hQ σ' c'' a' w3 j1 (k2.trans (by cases hdst : o.dst <;> simpa [St.put, hdst] using j2)) j3
theorem OpsA.skip {P : Program} {G : Nat → D} {n : Nat} {ops : Array Oper} {i : Nat} {rest : List Nat} {σ : St} {K : St → Prop} {o : Oper} (ho : ops[i]? = some o)
    (hd : ∀ k, o.dst = some k → k < n) (hg : guardIs ops σ.s o false) (hn : ∀ j want i, o.guard = some (j, want) → (ops[j]?).bind (·.dst) = some i → i < n)
    (h : OpsA P G n ops rest (σ.put o.dst (.lit undef) σ.H) K) : OpsA P G n ops (i :: rest) σ K := by
  intro F c a w hr Q hQ
  simp only [wpOps, ho]
  rw [if_neg (by rw [guard_wanted hr hg hn]; simp)]
  exact h F c _ w (hr.put hr.hp (Ext.refl _ _) _ hd (.lit _)) Q fun σ' c' a' w' k1 k2 k3 => hQ σ' c' a' w' k1 (by cases hdst : o.dst <;> simpa [St.put, hdst] using k2) k3
def CodeA (P : Program) (G : Nat → D) (n : Nat) (cd : Code) (σ : St) (Q : Exit → St → Prop) : Prop :=
  ∀ (F : Frm) (c : Conc) (a : Act) (w : World), Rel G F n c σ a w →
    cd.wp P (fun x a' w' => ∃ σ' c', Rel G F n c' σ' a' w' ∧ Ext c σ.H c' σ'.H ∧ Q x σ') a w
theorem CodeA.mono {P : Program} {G : Nat → D} {n : Nat} {cd : Code} {σ : St} {Q Q' : Exit → St → Prop} (h : CodeA P G n cd σ Q) (hq : ∀ x σ', Q x σ' → Q' x σ') : CodeA P G n cd σ Q' :=
  fun F c a w hr => wp_mono (h F c a w hr) fun x a' w' ⟨σ', c', k1, k2, k3⟩ => ⟨σ', c', k1, k2, hq _ _ k3⟩
theorem CodeA.skip {P : Program} {G : Nat → D} {n : Nat} {σ : St} {Q : Exit → St → Prop} (h : Q .normal σ) : CodeA P G n .skip σ Q :=
  fun F c a w hr => wp_skip ⟨σ, c, hr, Ext.refl _ _, h⟩
theorem CodeA.label {P : Program} {G : Nat → D} {n l : Nat} {σ : St} {Q : Exit → St → Prop} (h : Q .normal σ) : CodeA P G n (.label l) σ Q :=
  fun F c a w hr => wp_label ⟨σ, c, hr, Ext.refl _ _, h⟩
theorem CodeA.exit {P : Program} {G : Nat → D} {n id : Nat} {σ : St} {Q : Exit → St → Prop} (h : Q (.exit id) σ) : CodeA P G n (.exit id) σ Q :=
  fun F c a w hr => wp_exit ⟨σ, c, hr, Ext.refl _ _, h⟩
theorem CodeA.ret {P : Program} {G : Nat → D} {n : Nat} {σ : St} {Q : Exit → St → Prop} (h : Q .ret σ) : CodeA P G n .ret σ Q :=
  fun F c a w hr => wp_ret ⟨σ, c, hr, Ext.refl _ _, h⟩
def thenQ (K : St → Prop) (Q : Exit → St → Prop) : Exit → St → Prop
  | .normal, σ => K σ
  | x, σ => Q x σ
theorem CodeA.seq {P : Program} {G : Nat → D} {n : Nat} {x y : Code} {σ : St} {Q : Exit → St → Prop} (h : CodeA P G n x σ (thenQ (fun σ' => CodeA P G n y σ' Q) Q)) : CodeA P G n (.seq x y) σ Q := by
  intro F c a w hr
  refine wp_seq (wp_mono (h F c a w hr) ?_)
  rintro e a' w' ⟨σ', c', k1, k2, k3⟩
  cases e with
  | normal => exact wp_mono (k3 F c' a' w' k1) fun x a'' w'' ⟨σ'', c'', j1, j2, j3⟩ => ⟨σ'', c'', j1, k2.trans j2, j3⟩
  | exit id => exact ⟨σ', c', k1, k2, k3⟩
  | goto l => exact ⟨σ', c', k1, k2, k3⟩
  | ret => exact ⟨σ', c', k1, k2, k3⟩
  | panic ch => exact ⟨σ', c', k1, k2, k3⟩
  | outgrown => exact ⟨σ', c', k1, k2, k3⟩
def blockQ (id : Nat) (Q : Exit → St → Prop) : Exit → St → Prop
  | .exit id', σ => if id' = id then Q .normal σ else Q (.exit id') σ
  | x, σ => Q x σ
theorem CodeA.block {P : Program} {G : Nat → D} {n id : Nat} {x : Code} {σ : St} {Q : Exit → St → Prop} (h : CodeA P G n x σ (blockQ id Q)) : CodeA P G n (.block id x) σ Q := by
  intro F c a w hr
  refine wp_block (wp_mono (h F c a w hr) ?_)
  rintro e a' w' ⟨σ', c', k1, k2, k3⟩
  cases e with
  | exit id' =>
    simp only [Exit.inBlock, blockQ] at k3 ⊢
    split at k3
    · rename_i hid; rw [if_pos hid]; exact ⟨σ', c', k1, k2, k3⟩
    · rename_i hid; rw [if_neg hid]; exact ⟨σ', c', k1, k2, k3⟩
  | normal => exact ⟨σ', c', k1, k2, k3⟩
  | goto l => exact ⟨σ', c', k1, k2, k3⟩
  | ret => exact ⟨σ', c', k1, k2, k3⟩
  | panic ch => exact ⟨σ', c', k1, k2, k3⟩
  | outgrown => exact ⟨σ', c', k1, k2, k3⟩
theorem CodeA.loop {P : Program} {G : Nat → D} {n : Nat} {x : Code} {σ : St} {Q : Exit → St → Prop} (I : St → Prop) (μ : St → Nat) (h0 : I σ)
    (h : ∀ σ', I σ' → CodeA P G n x σ' (thenQ (fun σ'' => I σ'' ∧ μ σ'' < μ σ') Q)) : CodeA P G n (.loop x) σ Q := by
  suffices key : ∀ k σ, μ σ = k → I σ → ∀ (F : Frm) (c : Conc) (a : Act) (w : World), Rel G F n c σ a w → ∀ (b : Frame) (ks : List Item) (cs : List Frame),
      ∃ e a' w', (∃ σ' c', Rel G F n c' σ' a' w' ∧ Ext c σ.H c' σ'.H ∧ Q e σ') ∧ Arrives P (lone (b.at a (.code x :: .inLoop x :: ks)) cs w) b ks cs e a' w' by
    intro F c a w hr b ks cs
    obtain ⟨e, a', w', hq, harr⟩ := key _ σ rfl h0 F c a w hr b ks cs
    exact ⟨e, a', w', hq, .of_steps (.one step_loop) harr⟩
  intro k
  induction k using Nat.strongRecOn with
  | _ k ih =>
    intro σ hk hI F c a w hr b ks cs
    obtain ⟨e, a₁, w₁, hq, harr⟩ := h σ hI F c a w hr b (.inLoop x :: ks) cs
    obtain ⟨σ₁, c₁, k1, k2, k3⟩ := hq
    cases e with
    | normal =>
      obtain ⟨hI₁, hlt⟩ := k3
      obtain ⟨e₂, a₂, w₂, ⟨σ₂, c₂, j1, j2, j3⟩, harr₂⟩ := ih (μ σ₁) (hk ▸ hlt) σ₁ rfl hI₁ F c₁ a₁ w₁ k1 b ks cs
      exact ⟨e₂, a₂, w₂, ⟨σ₂, c₂, j1, k2.trans j2, j3⟩, .of_steps (Steps.trans harr (.one step_inLoop)) harr₂⟩
    | exit id => exact ⟨_, a₁, w₁, ⟨σ₁, c₁, k1, k2, k3⟩, .pass (x := .inLoop x) rfl (fun _ _ => .inl (by simp)) harr⟩
    | goto l => exact ⟨_, a₁, w₁, ⟨σ₁, c₁, k1, k2, k3⟩, .pass (x := .inLoop x) rfl (fun _ _ => .inl (by simp)) harr⟩
    | ret => exact ⟨_, a₁, w₁, ⟨σ₁, c₁, k1, k2, k3⟩, .pass (x := .inLoop x) rfl (fun _ _ => .inl (by simp)) harr⟩
    | panic ch => exact ⟨_, a₁, w₁, ⟨σ₁, c₁, k1, k2, k3⟩, .pass (x := .inLoop x) rfl (fun _ _ => .inl (by simp)) harr⟩
    | outgrown => exact ⟨_, a₁, w₁, ⟨σ₁, c₁, k1, k2, k3⟩, .pass (x := .inLoop x) rfl (fun _ _ => .inl (by simp)) harr⟩
theorem CodeA.region {P : Program} {G : Nat → D} {n id : Nat} {ops : Array Oper} {σ : St} {Q : Exit → St → Prop} (h : OpsA P G n ops (List.range ops.size) σ (fun σ' => Q .normal σ')) : CodeA P G n (.region id ops false) σ Q :=
  fun F c a w hr => wp_region (h F c a w hr _ fun σ' c' a' w' k1 k2 k3 => ⟨σ', c', k1, k2, k3⟩)
theorem Keeps.drew {F : Frm} {w : World} (h : Keeps F w) : Keeps F w.drew := ⟨h.os, h.tape, h.output, h.size, h.block⟩
theorem RelH.drew {F : Frm} {c : Conc} {H : List O} {w : World} (h : RelH F c H w) : RelH F c H w.drew :=
  ⟨h.good, fun id o ho => by have := h.objs id o ho; cases o <;> exact this, h.apart, h.free, h.keeps.drew⟩
theorem Rel.drew {G : Nat → D} {F : Frm} {n : Nat} {c : Conc} {σ : St} {a : Act} {w : World} (h : Rel G F n c σ a w) : Rel G F n c σ a w.drew := ⟨h.defers, h.size, h.slots, h.glob, h.hp.drew⟩
def ResA (P : Program) (G : Nat → D) (fn : Func) (σ : St) (Q : D → List O → Prop) : Prop :=
  ∀ (F : Frm) (n : Nat) (c : Conc) (a : Act) (w : World), Rel G F n c σ a w →
    ∃ v d c' H', (results fn a.tmps).run P w = .ok v w ∧ RelH F c' H' w ∧ Ext c σ.H c' H' ∧ RdV c' H' d v ∧ Q d H'
def retQ (P : Program) (G : Nat → D) (fn : Func) (Q : D → List O → Prop) : Exit → St → Prop
  | .normal, σ | .ret, σ => ResA P G fn σ Q
  | _, _ => False
def args0 (ds : List D) : Nat → D := fun i => if h : i < ds.length then ds[i]'h else .lit undef
theorem CallA.enter {P : Program} {G : Nat → D} {f : FuncId} {fn : Func} {cd : Code} {ds : List D} {H : List O} {Q : D → List O → Prop} (hf : P.funcs[f]? = some fn) (hname : (fn.name == "runtime.NumGoroutine") = false) (hb : fn.body = some cd) (hn : ds.length ≤ fn.ntmps)
    (h : CodeA P G fn.ntmps cd ⟨args0 ds, H⟩ (retQ P G fn Q)) : CallA P G f ds H Q := by
  refine ⟨⟨fn, hf, hname, by rw [hb]; rfl⟩, ?_⟩
  intro F c w vs hp hg hl hv
  refine calls_of_wp hf hb ?_
  have hr : Rel G F fn.ntmps c ⟨args0 ds, H⟩ { tmps := vs ++ Array.replicate (fn.ntmps - vs.size) undef, defers := [] } w := by
    refine ⟨rfl, by simp; omega, fun i => ?_, hg, hp⟩
    simp only [args0]
    split
    · rename_i hi
      have := hv i hi
      have hi' : i < vs.size := by omega
      simp only [Array.getD_eq_getD_getElem?] at this ⊢
      rw [Array.getElem?_append_left hi']
      exact this
    · rename_i hi
      have : (vs ++ Array.replicate (fn.ntmps - vs.size) undef).getD i undef = undef := by
        simp only [Array.getD_eq_getD_getElem?]
        rw [Array.getElem?_append_right (by omega), Array.getElem?_replicate]
        split <;> rfl
      rw [this]
      exact .lit _
  refine wp_mono (h F c _ w hr) ?_
  rintro x a' w' ⟨σ', c', k1, k2, k3⟩
  have fin : ResA P G fn σ' Q → a'.defers = [] ∧ ∃ v, (results fn a'.tmps).run P w' = .ok v w' ∧ ∃ v' d c'' H', Ending.returned v = .returned v' ∧ RelH F c'' H' w' ∧ Ext c H c'' H' ∧ RdV c'' H' d v' ∧ Q d H' := by
    intro hres
    obtain ⟨v, d, c'', H', j1, j2, j3, j4, j5⟩ := hres F fn.ntmps c' a' w' k1
    exact ⟨k1.defers, v, j1, v, d, c'', H', rfl, j2, k2.trans j3, j4, j5⟩
  cases x with
  | normal => exact fin k3
  | ret => exact fin k3
  | exit id => exact k3.elim
  | goto l => exact k3.elim
  | panic ch => exact k3.elim
  | outgrown => exact k3.elim
end Go.DL
set_option linter.unusedVariables false
set_option linter.unusedSimpArgs false
namespace Go.DL
open Go
theorem flat_length {xs : List D} {s : Nat} (h : ∀ y ∈ xs, y.leaves.length = s) : (flat xs).length = xs.length * s := by
  induction xs with
  | nil => simp [flat]
  | cons x xs ih =>
    have h1 := ih fun y hy => h y (List.mem_cons_of_mem _ hy)
    have h2 := h x (List.mem_cons_self)
    simp only [flat, List.flatMap_cons, List.length_append, List.length_cons] at h1 ⊢
    rw [h1, h2, Nat.add_mul, Nat.one_mul, Nat.add_comm]
theorem flat_get {xs : List D} {s : Nat} (h : ∀ y ∈ xs, y.leaves.length = s) : ∀ (j : Nat) (hj : j < xs.length) (i : Nat) (hi : i < (xs[j]'hj).leaves.length), (flat xs)[j * s + i]? = some ((xs[j]'hj).leaves[i]'hi) := by
  induction xs with
  | nil => intro j hj; simp at hj
  | cons x xs ih =>
    intro j hj i hi
    have h2 := h x (List.mem_cons_self)
    have h1 := ih fun y hy => h y (List.mem_cons_of_mem _ hy)
    simp only [flat, List.flatMap_cons]
    cases j with
    | zero =>
      simp only [List.getElem_cons_zero] at hi ⊢
      rw [Nat.zero_mul, Nat.zero_add, List.getElem?_append_left hi, List.getElem?_eq_getElem hi]
    | succ j =>
      simp only [List.getElem_cons_succ] at hi ⊢
      rw [List.getElem?_append_right (by rw [h2, Nat.add_mul]; omega)]
      rw [show (j + 1) * s + i - x.leaves.length = j * s + i by rw [h2, Nat.add_mul]; omega]
      exact h1 j (by simpa using hj) i hi
theorem idx_lt {n s j i : Nat} (hj : j < n) (hi : i < s) : j * s + i < n * s := by
  have : (j + 1) * s ≤ n * s := Nat.mul_le_mul_right _ hj
  rw [Nat.add_mul] at this; omega
theorem flat_append (xs ys : List D) : flat (xs ++ ys) = flat xs ++ flat ys := by simp [flat]
theorem grownBy_refl (w : World) (row : Option Nat) : w.grownBy w row := ⟨rfl, rfl, rfl, Nat.le_refl _, fun _ _ _ => rfl⟩
theorem OOk.lt {c : Conc} {H : List O} {w : World} {id : Nat} {o : O} (h : OOk c H w id o) {b : Nat} (hb : blk (c.κ id) = some b) : b < w.heap.size := by
  cases o with
  | row x ver e s xs =>
    obtain ⟨_, _, cells, hown, _⟩ := h
    refine (hown.lt b ?_).2
    generalize c.κ id = v at hb hown
    cases v <;> simp_all [blk, Value.ownBlock]
    all_goals (rcases hown.2 with ⟨h, _⟩ | ⟨g, cap, cur, h, _⟩ <;> simp_all)
  | box e ys =>
    obtain ⟨b', cs, h1, h2, _⟩ := h
    rw [h1] at hb; simp only [blk, Option.some.injEq] at hb; subst hb
    exact (Array.getElem?_eq_some_iff.1 h2).1
  | map mv es =>
    obtain ⟨b', ms, clock, h1, h2, _⟩ := h
    rw [h1] at hb; simp only [blk, Option.some.injEq] at hb; subst hb
    exact (Array.getElem?_eq_some_iff.1 h2).1
  | iter m mv left cur =>
    obtain ⟨b', bm, since, seen, last, ver, es, h1, h2, _⟩ := h
    rw [h1] at hb; simp only [blk, Option.some.injEq] at hb; subst hb
    exact (Array.getElem?_eq_some_iff.1 h2).1
theorem blk_row {c : Conc} {H : List O} {w : World} {id : Nat} {x : Bool} {ver : Nat} {e : TypeId} {s : Nat} {xs : List D} (h : OOk c H w id (.row x ver e s xs)) : blk (c.κ id) = (c.κ id).ownBlock := by
  obtain ⟨_, _, cells, hown, _⟩ := h
  rcases hown.2 with ⟨h, _⟩ | ⟨g, cap, cur, h, _⟩ <;> rw [h] <;> rfl
theorem Entries.ext {c c' : Conc} {H H' : List O} {es : List (Value × D)} {ms : Array MapEntry} (h : Entries c H es ms) (hE : Ext c H c' H') : Entries c' H' es ms :=
  ⟨h.1, fun i hi => ⟨(h.2 i hi).1, (h.2 i hi).2.ext hE⟩⟩
theorem OOk.keep {c c' : Conc} {H H' : List O} {w w' : World} {id : Nat} {o : O} (h : OOk c H w id o) (hE : Ext c H c' H') (hκ : c'.κ id = c.κ id)
    (hblk : ∀ b, blk (c.κ id) = some b → w'.heap[b]? = w.heap[b]?) (hΦ : ∀ a v, c'.Φ a = some v → blk (c.κ id) = some a.block → c.Φ a = some v)
    (hit : ∀ m mv left cur ver es bm, o = .iter m mv left cur → H[m]? = some (.map ver es) → mv ≤ ver → blk (c.κ m) = some bm →
      c'.κ m = c.κ m ∧ ∃ ver' es', H'[m]? = some (.map ver' es') ∧ mv ≤ ver' ∧ (mv = ver' → mv = ver ∧ es' = es ∧ w'.heap[bm]? = w.heap[bm]?)) : OOk c' H' w' id o := by
  cases o with
  | row x ver e s xs =>
    have hbr := blk_row h
    obtain ⟨h0, h1, cells, hown, h2, h3⟩ := h
    refine ⟨h0, h1, cells, ?_, fun k hk => (h2 k hk).ext hE, ?_⟩
    · rw [hκ]
      refine ⟨hown.1, ?_⟩
      rcases hown.2 with hn | ⟨g, cap, cur, hv, hb, hh, r⟩
      · exact .inl hn
      · exact .inr ⟨g, cap, cur, hv, hb, by rw [hblk g (by rw [hv]; rfl)]; exact hh, r⟩
    · intro g hg
      rw [hκ] at hg
      obtain ⟨k1, k2⟩ := h3 g hg
      refine ⟨fun a v ha hb => k1 a v (hΦ a v ha (by rw [hb]; exact hg)) hb, fun hx k hk => ?_⟩
      have := k2 hx k hk
      have hlt : k < cells.length := by rw [hown.1]; exact hk
      rw [List.getElem?_eq_getElem hlt] at this ⊢
      exact hE.Φ _ _ this
  | box e ys =>
    obtain ⟨b, cs, h1, h2, h3, h4, h5, h6⟩ := h
    have hb : blk (c.κ id) = some b := by rw [h1]; rfl
    exact ⟨b, cs, by rw [hκ]; exact h1, by rw [hblk b hb]; exact h2, h3, fun i hi => (h4 i hi).ext hE, h5, fun a v ha hab => h6 a v (hΦ a v ha (by rw [hab]; exact hb)) hab⟩
  | map mv es =>
    obtain ⟨b, ms, clock, h1, h2, h3, h4⟩ := h
    have hb : blk (c.κ id) = some b := by rw [h1]; rfl
    exact ⟨b, ms, clock, by rw [hκ]; exact h1, by rw [hblk b hb]; exact h2, h3.ext hE, h4⟩
  | iter m mv left cur =>
    obtain ⟨b, bm, since, seen, last, ver, es, h1, h2, h3, h4, h5, h6⟩ := h
    have hb : blk (c.κ id) = some b := by rw [h1]; rfl
    obtain ⟨k1, ver', es', k2, k3, k4⟩ := hit m mv left cur ver es bm rfl h4 h5 (by rw [h3]; rfl)
    refine ⟨b, bm, since, seen, last, ver', es', by rw [hκ]; exact h1, by rw [hblk b hb]; exact h2, by rw [k1]; exact h3, k2, k3, fun hv => ?_⟩
    obtain ⟨j1, rfl, j3⟩ := k4 hv
    rw [j3]
    exact h6 j1
theorem RelH.step {F : Frm} {c c' : Conc} {H H' : List O} {w w' : World} (h : RelH F c H w) (row : Option Nat) (id : Nat) (hg : w.grownBy w' row)
    (hrow : ∀ b, row = some b → id < H.length ∧ blk (c.κ id) = some b) (hE : Ext c H c' H') (hκ : ∀ i, i < H.length → i ≠ id → c'.κ i = c.κ i) (hH : ∀ i, i ≠ id → H'[i]? = H[i]?)
    (hΦ : ∀ a v, c'.Φ a = some v → c.Φ a = some v ∨ (w'.cell? a = some v ∧ (w.heap.size ≤ a.block ∨ (id < H.length ∧ blk (c.κ id) = some a.block))))
    (hold : ∀ a v, c.Φ a = some v → row = some a.block → w'.cell? a = some v)
    (hid : ∀ o, H'[id]? = some o → OOk c' H' w' id o)
    (hblk : ∀ b, id < H'.length → blk (c'.κ id) = some b → (id < H.length ∧ blk (c.κ id) = some b) ∨ w.heap.size ≤ b)
    (hmv : ∀ ver es, H[id]? = some (.map ver es) → ∃ ver' es', H'[id]? = some (.map ver' es') ∧ c'.κ id = c.κ id ∧ ver ≤ ver' ∧ (ver = ver' → es' = es ∧ row = none)) : RelH F c' H' w' := by
  have hlt : ∀ i b, i < H.length → blk (c.κ i) = some b → b < w.heap.size := fun i b hi hb => (h.objs i _ (List.getElem?_eq_getElem hi)).lt hb
  have hlen : ∀ i, i < H'.length → i ≠ id → i < H.length := by
    intro i hi hne
    have := hH i hne
    rw [List.getElem?_eq_getElem hi] at this
    exact (List.getElem?_eq_some_iff.1 this.symm).1
  refine ⟨?_, ?_, ?_, ?_, ?_⟩
  · intro a v ha
    rcases hΦ a v ha with h1 | h1
    · by_cases hr : row = some a.block
      · exact hold a v h1 hr
      · exact hg.cell (h.good a v h1) (fun e => hr e.symm)
    · exact h1.1
  · intro i o ho
    by_cases hi : i = id
    · subst hi; exact hid o ho
    · have hil : i < H.length := hlen i (List.getElem?_eq_some_iff.1 ho).1 hi
      rw [hH i hi] at ho
      refine (h.objs i o ho).keep hE (hκ i hil hi) ?_ ?_ ?_
      · intro b hb
        refine hg.block b (hlt i b hil hb) fun e => ?_
        obtain ⟨k1, k2⟩ := hrow b e.symm
        exact hi (h.apart i id b hil k1 hb k2)
      · intro a v ha hb
        rcases hΦ a v ha with h1 | ⟨_, h1 | ⟨k1, k2⟩⟩
        · exact h1
        · have := hlt i _ hil hb; omega
        · exact absurd (h.apart i id _ hil k1 hb k2) hi
      · intro m mv left cur ver es bm ho' hm hle hbm
        have hml : m < H.length := (List.getElem?_eq_some_iff.1 hm).1
        by_cases hmi : m = id
        · subst hmi
          obtain ⟨ver', es', k1, k2, k3, k4⟩ := hmv ver es hm
          refine ⟨k2, ver', es', k1, by omega, fun hv => ?_⟩
          obtain ⟨j1, j2⟩ := k4 (by omega)
          exact ⟨by omega, j1, hg.block bm (hlt m bm hml hbm) (by rw [j2]; simp)⟩
        · refine ⟨hκ m hml hmi, ver, es, by rw [hH m hmi]; exact hm, hle, fun hv => ⟨hv, rfl, hg.block bm (hlt m bm hml hbm) fun e => ?_⟩⟩
          obtain ⟨k1, k2⟩ := hrow bm e.symm
          exact hmi (h.apart m id bm hml k1 hbm k2)
  · intro i j b hi hj hbi hbj
    by_cases h1 : i = id
    · by_cases h2 : j = id
      · rw [h1, h2]
      · subst h1
        have hjl := hlen j hj h2
        rw [hκ j hjl h2] at hbj
        rcases hblk b hi hbi with ⟨k1, k2⟩ | k1
        · exact h.apart i j b k1 hjl k2 hbj
        · have := hlt j b hjl hbj; omega
    · have hil := hlen i hi h1
      rw [hκ i hil h1] at hbi
      by_cases h2 : j = id
      · subst h2
        rcases hblk b hj hbj with ⟨k1, k2⟩ | k1
        · exact h.apart i j b hil k1 hbi k2
        · have := hlt i b hil hbi; omega
      · have hjl := hlen j hj h2
        rw [hκ j hjl h2] at hbj
        exact h.apart i j b hil hjl hbi hbj
  · intro i b hi hb
    by_cases h1 : i = id
    · subst h1
      rcases hblk b hi hb with ⟨k1, k2⟩ | k1
      · exact h.free i b k1 k2
      · intro hp
        have := F.lt b hp
        have := h.keeps.size
        omega
    · have hil := hlen i hi h1
      rw [hκ i hil h1] at hb
      exact h.free i b hil hb
  · refine ⟨hg.os.trans h.keeps.os, hg.tape.trans h.keeps.tape, hg.output.trans h.keeps.output, Nat.le_trans h.keeps.size hg.size, fun b hb => ?_⟩
    rw [hg.block b (Nat.lt_of_lt_of_le (F.lt b hb) h.keeps.size) ?_]
    · exact h.keeps.block b hb
    · intro e
      obtain ⟨k1, k2⟩ := hrow b e.symm
      exact h.free id b k1 k2 hb
end Go.DL
set_option linter.unusedVariables false
set_option linter.unusedSimpArgs false
namespace Go.DL
open Go
def D.whole (d : D) : Prop := d.one = true ∨ ∃ ys, d = .agg ys
theorem RdV.cells {c : Conc} {H : List O} {d : D} {v : Value} (h : RdV c H d v) (hw : d.whole) :
    v.cells.size = d.leaves.length ∧ (∀ z ∈ d.leaves, z.one = true) ∧ (∀ i (hi : i < d.leaves.length), RdV c H (d.leaves[i]'hi) (v.cells.getD i undef)) ∧ (∀ u ∈ v.cells.toList, u.oneCell' = true) := by
  rcases hw with hw | ⟨ys, rfl⟩
  · have ho := h.oneCell hw
    have hl : d.leaves = [d] := by cases d <;> simp_all [D.leaves, D.one]
    have hc : v.cells = #[v] := by cases v <;> simp_all [Value.cells, Value.oneCell']
    rw [hl, hc]
    refine ⟨rfl, by simp [hw], fun i hi => ?_, by simp [ho]⟩
    have : i = 0 := by simp at hi; exact hi
    subst this
    simpa using h
  · cases h with
    | agg xs cs hn h1 hr =>
      refine ⟨hn, fun z hz => ?_, fun i hi => hr i hi, fun u hu => ?_⟩
      · obtain ⟨i, hi, rfl⟩ := List.getElem_of_mem hz
        exact h1 i hi
      · obtain ⟨i, hi, rfl⟩ := List.getElem_of_mem hu
        simp only [Value.cells, Array.length_toList] at hi
        have hi' : i < ys.length := by rw [← hn]; exact hi
        have := (hr i hi').oneCell (h1 i hi')
        simpa [Value.cells, Array.getD, hi] using this
def mkD (agg : Bool) (ys : List D) : D := if agg then .agg ys else ys.headD .junk
def updκ (c : Conc) (id : Nat) (v : Value) : Conc := ⟨c.Φ, fun i => if i = id then v else c.κ i⟩
theorem getElem?_snoc {α : Type} (H : List α) (o : α) (i : Nat) : (H ++ [o])[i]? = if i = H.length then some o else H[i]? := by
  by_cases hi : i = H.length
  · subst hi; simp
  · rw [if_neg hi]
    by_cases h2 : i < H.length
    · rw [List.getElem?_append_left h2]
    · rw [List.getElem?_eq_none (by simp; omega), List.getElem?_eq_none (by omega)]
theorem Ext.push {c : Conc} {H : List O} (o : O) (v : Value) : Ext c H (updκ c H.length v) (H ++ [o]) :=
  ⟨fun _ _ h => h, fun id o' ho => ⟨o', by rw [List.getElem?_append_left (List.getElem?_eq_some_iff.1 ho).1]; exact ho, rfl, Nat.le_refl _, fun _ => by
    have := (List.getElem?_eq_some_iff.1 ho).1
    simp only [updκ]; rw [if_neg (by omega)]⟩⟩
theorem RelH.push {F : Frm} {c : Conc} {H : List O} {w w' : World} (h : RelH F c H w) (hg : w.grownBy w' none) (o : O) (v : Value) (hv : ∀ b, blk v = some b → w.heap.size ≤ b)
    (ho : OOk (updκ c H.length v) (H ++ [o]) w' H.length o) : RelH F (updκ c H.length v) (H ++ [o]) w' := by
  refine h.step none H.length hg (fun b hb => by cases hb) (Ext.push o v) (fun i hi hne => by simp [updκ, hne]) (fun i hi => by rw [getElem?_snoc, if_neg hi]) (fun a u ha => .inl ha) (fun a u _ hr => by cases hr) ?_ ?_ ?_
  · intro o' ho'
    rw [getElem?_snoc, if_pos rfl] at ho'
    cases ho'; exact ho
  · intro b _ hb
    simp only [updκ, if_true] at hb
    exact .inr (hv b hb)
  · intro ver es hm
    rw [List.getElem?_eq_none (Nat.le_refl _)] at hm
    cases hm
theorem RelH.push_box {F : Frm} {c : Conc} {H : List O} {w : World} (h : RelH F c H w) (e : TypeId) (ys : List D) (cs : Array Value) (hn : cs.size = ys.length) (h1 : ∀ z ∈ ys, z.one = true)
    (hr : ∀ i (hi : i < ys.length), RdV c H (ys[i]'hi) (cs.getD i undef)) :
    RelH F (updκ c H.length (.pointer (some ⟨w.heap.size, 0, none⟩))) (H ++ [.box e ys]) (w.alloc (.cells cs e)) := by
  refine h.push (World.grownBy_alloc w _ none) _ _ (fun b hb => by simp only [blk, Option.some.injEq] at hb; omega) ?_
  refine ⟨w.heap.size, cs, by simp [updκ], heap_alloc_new w _, hn, fun i hi => (hr i hi).ext (Ext.push _ _), h1, fun a v ha hab => ?_⟩
  have := World.block_lt_of_cell? w a (h.good a v ha)
  omega
theorem RelH.freeze {F : Frm} {c : Conc} {H : List O} {w : World} (h : RelH F c H w) {id : Nat} {x : Bool} {ver : Nat} {e : TypeId} {s : Nat} {xs : List D} (ho : H[id]? = some (.row x ver e s xs)) :
    ∃ c', RelH F c' (H.set id (.row false ver e s xs)) w ∧ Ext c H c' (H.set id (.row false ver e s xs)) ∧ RdV c' (H.set id (.row false ver e s xs)) (.sl xs) (c.κ id) := by
  have hid : id < H.length := (List.getElem?_eq_some_iff.1 ho).1
  have hok := h.objs id _ ho
  have hbr := blk_row hok
  obtain ⟨h0, h1, cells, hown, h2, h3⟩ := hok
  have hfl : (flat xs).length = xs.length * s := flat_length fun y hy => (h1 y hy).1
  have hcl : cells.length = xs.length * s := hown.1
  have hE : ∀ c' : Conc, c'.κ = c.κ → (∀ a v, c.Φ a = some v → c'.Φ a = some v) → Ext c H c' (H.set id (.row false ver e s xs)) := by
    intro c' hκ hΦ
    refine ⟨hΦ, fun i o hi => ?_⟩
    by_cases hii : i = id
    · subst hii
      rw [ho] at hi; cases hi
      exact ⟨.row false ver e s xs, List.getElem?_set_self hid, rfl, Nat.le_refl _, fun _ => by rw [hκ]⟩
    · exact ⟨o, by rw [List.getElem?_set_ne (by omega)]; exact hi, rfl, Nat.le_refl _, fun _ => by rw [hκ]⟩
  rcases hown.2 with ⟨hnil, hz⟩ | ⟨g, cap, cur, hv, _, hh, hle, hmax, hsz, htake⟩
  · have hx : xs = [] := List.eq_nil_of_length_eq_zero hz
    subst hx
    have hE' := hE c rfl fun _ _ q => q
    refine ⟨c, ?_, hE', ?_⟩
    · refine h.step none id (grownBy_refl _ _) (fun b hb => by cases hb) hE' (fun _ _ _ => rfl) (fun i hi => List.getElem?_set_ne (by omega)) (fun a v ha => .inl ha) (fun _ _ _ hr => by cases hr) ?_ (fun b _ hb => .inl ⟨hid, hb⟩) ?_
      · intro o hoo
        rw [List.getElem?_set_self hid] at hoo
        cases hoo
        exact ⟨h0, h1, cells, hown, fun k hk => (h2 k hk).ext hE', fun g hg => by rw [hnil] at hg; cases hg⟩
      · intro ver' es hm; rw [ho] at hm; cases hm
    · rw [hnil]
      exact .sl [] none ⟨0, 0, none⟩ 0 s (fun _ _ => undef) (Nat.le_refl _) (fun hp => by simp at hp) (fun j hj => by simp at hj) (fun j hj => by simp at hj) (fun j hj => by simp at hj) (fun j hj => by simp at hj)
  · have hg : blk (c.κ id) = some g := by rw [hv]; rfl
    obtain ⟨h4, h5⟩ := h3 g hg
    have hcell : ∀ k, k < xs.length * s → w.cell? ⟨g, k, none⟩ = cells[k]? := by
      intro k hk
      simp only [World.cell?, hh]
      rw [← htake]
      simp [hk]
    let c' : Conc := ⟨fun a => if a.block = g ∧ a.spot = none ∧ a.off < xs.length * s then cells[a.off]? else c.Φ a, c.κ⟩
    have hΦ : ∀ a v, c.Φ a = some v → c'.Φ a = some v := by
      intro a v ha
      show (if a.block = g ∧ a.spot = none ∧ a.off < xs.length * s then cells[a.off]? else c.Φ a) = some v
      split
      · rename_i hcond
        have hw := h.good a v ha
        obtain ⟨b1, b2, b3⟩ := hcond
        rw [← hcell a.off b3]
        have : a = ⟨g, a.off, none⟩ := by cases a; simp_all
        rw [← this]; exact hw
      · exact ha
    have hE' := hE c' rfl hΦ
    refine ⟨c', ?_, hE', ?_⟩
    · refine h.step none id (grownBy_refl _ _) (fun b hb => by cases hb) hE' (fun _ _ _ => rfl) (fun i hi => List.getElem?_set_ne (by omega)) ?_ (fun _ _ _ hr => by cases hr) ?_ (fun b _ hb => .inl ⟨hid, hb⟩) ?_
      · intro a v ha
        have ha' : (if a.block = g ∧ a.spot = none ∧ a.off < xs.length * s then cells[a.off]? else c.Φ a) = some v := ha
        split at ha'
        · rename_i hcond
          obtain ⟨b1, b2, b3⟩ := hcond
          have he : a = ⟨g, a.off, none⟩ := by cases a; simp_all
          refine .inr ⟨by rw [he, hcell a.off b3]; exact ha', .inr ⟨hid, by rw [b1]; exact hg⟩⟩
        · exact .inl ha'
      · intro o hoo
        rw [List.getElem?_set_self hid] at hoo
        cases hoo
        refine ⟨h0, h1, cells, hown, fun k hk => (h2 k hk).ext hE', fun g' hg' => ?_⟩
        have : g' = g := by have hg2 : blk (c.κ id) = some g' := hg'; rw [hg] at hg2; exact (Option.some.inj hg2).symm
        subst this
        refine ⟨fun a v ha hb => ⟨rfl, ?_⟩, fun _ k hk => ?_⟩
        · have ha' : (if a.block = g' ∧ a.spot = none ∧ a.off < xs.length * s then cells[a.off]? else c.Φ a) = some v := ha
          split at ha'
          · rename_i hcond; exact hcond.2.2
          · exact (h4 a v ha' hb).2
        · show (if (g' : Nat) = g' ∧ (none : Option Nat) = none ∧ k < xs.length * s then cells[k]? else _) = cells[k]?
          rw [if_pos ⟨rfl, rfl, hk⟩]
      · intro ver' es hm; rw [ho] at hm; cases hm
    · have hn : c.κ id = .slice (some ⟨g, 0, none⟩) xs.length cap := hv
      rw [hn]
      refine .sl xs (some ⟨g, 0, none⟩) ⟨g, 0, none⟩ cap s (fun j i => cells.getD (j * s + i) undef) hle (fun _ => rfl) (fun j hj => (h1 _ (List.getElem_mem hj)).1) (fun j hj i hi => (h1 _ (List.getElem_mem hj)).2 _ (List.getElem_mem hi)) ?_ ?_
      · intro j hj i hi
        have hi' : i < s := by rw [← (h1 _ (List.getElem_mem hj)).1]; exact hi
        have hlt := idx_lt hj hi'
        have : ((⟨g, 0, none⟩ : Addr).add (j * s + i)) = ⟨g, j * s + i, none⟩ := by unfold Addr.add; split <;> simp_all
        rw [this]
        show (if (g : Nat) = g ∧ (none : Option Nat) = none ∧ j * s + i < xs.length * s then cells[j * s + i]? else _) = _
        rw [if_pos ⟨rfl, rfl, hlt⟩, List.getElem?_eq_getElem (by omega), List.getD_eq_getElem?_getD, List.getElem?_eq_getElem (by omega)]
        rfl
      · intro j hj i hi
        have hi' : i < s := by rw [← (h1 _ (List.getElem_mem hj)).1]; exact hi
        have hlt := idx_lt hj hi'
        have hf := flat_get (fun y hy => (h1 y hy).1) j hj i hi
        have hk : j * s + i < (flat xs).length := by rw [hfl]; exact hlt
        rw [List.getElem?_eq_getElem hk] at hf
        have := h2 (j * s + i) hk
        rw [Option.some.inj hf] at this
        exact this.ext hE'
end Go.DL
set_option linter.unusedVariables false
set_option linter.unusedSimpArgs false
namespace Go.DL
open Go
theorem flat_at {xs : List D} {s : Nat} (hs : 0 < s) (h : ∀ y ∈ xs, y.leaves.length = s) (k : Nat) (hk : k < (flat xs).length) :
    ∃ (hj : k / s < xs.length) (hi : k % s < (xs[k / s]'hj).leaves.length), (flat xs)[k]'hk = (xs[k / s]'hj).leaves[k % s]'hi := by
  have hfl := flat_length h
  have hj : k / s < xs.length := by
    rw [hfl] at hk
    exact (Nat.div_lt_iff_lt_mul hs).2 hk
  have hi : k % s < (xs[k / s]'hj).leaves.length := by rw [h _ (List.getElem_mem hj)]; exact Nat.mod_lt _ hs
  refine ⟨hj, hi, ?_⟩
  have := flat_get h (k / s) hj (k % s) hi
  rw [show k / s * s + k % s = k by rw [Nat.mul_comm]; exact Nat.div_add_mod k s, List.getElem?_eq_getElem hk] at this
  exact Option.some.inj this
theorem sl_news {c : Conc} {H : List O} {ys : List D} {a : Option Addr} {m cap s : Nat} (h : RdV c H (.sl ys) (.slice a m cap)) (hs : 0 < s) (hy : ∀ y ∈ ys, y.leaves.length = s) :
    ∃ news : List Value, news.length = ys.length * s ∧ m = ys.length ∧ m ≤ cap ∧ (0 < ys.length → ∃ ad, a = some ad ∧ ∀ k u, news[k]? = some u → c.Φ (ad.add k) = some u) ∧ (∀ u ∈ news, u.oneCell' = true) ∧
      (∀ k (hk : k < (flat ys).length), RdV c H ((flat ys)[k]'hk) (news.getD k undef)) ∧ (∀ j (hj : j < ys.length), ∀ z ∈ (ys[j]'hj).leaves, z.one = true) := by
  cases h with
  | sl _ _ ad _ s' vs hcap ha hs' h1 hΦ hr =>
    have hfl := flat_length hy
    have hss : ∀ j (hj : j < ys.length), s' = s := fun j hj => by rw [← hs' j hj]; exact hy _ (List.getElem_mem hj)
    refine ⟨(List.range (ys.length * s)).map fun k => vs (k / s) (k % s), by simp, rfl, hcap, fun hp => ⟨ad, ha hp, fun k u hu => ?_⟩, fun u hu => ?_, fun k hk => ?_, fun j hj z hz => ?_⟩
    · have hk : k < ys.length * s := by
        have := (List.getElem?_eq_some_iff.1 hu).1
        simpa using this
      simp only [List.getElem?_map, List.getElem?_range hk, Option.map_some, Option.some.injEq] at hu
      obtain ⟨hj, hi, _⟩ := flat_at hs hy k (by rw [hfl]; exact hk)
      have := hΦ (k / s) hj (k % s) hi
      rw [hss _ hj, show k / s * s + k % s = k by rw [Nat.mul_comm]; exact Nat.div_add_mod k s] at this
      rw [this, hu]
    · obtain ⟨k, hk, rfl⟩ := List.getElem_of_mem hu
      simp only [List.length_map, List.length_range] at hk
      simp only [List.getElem_map, List.getElem_range]
      obtain ⟨hj, hi, _⟩ := flat_at hs hy k (by rw [hfl]; exact hk)
      exact (hr _ hj _ hi).oneCell (h1 _ hj _ hi)
    · obtain ⟨hj, hi, he⟩ := flat_at hs hy k hk
      rw [he]
      have hk' : k < ys.length * s := by rw [← hfl]; exact hk
      have : ((List.range (ys.length * s)).map fun k => vs (k / s) (k % s)).getD k undef = vs (k / s) (k % s) := by
        simp [List.getD_eq_getElem?_getD, List.getElem?_range hk']
      rw [this]
      exact hr _ hj _ hi
    · obtain ⟨i, hi, rfl⟩ := List.getElem_of_mem hz
      exact h1 j hj i hi
theorem blk_own {w : World} {e : TypeId} {s n : Nat} {v : Value} {xs : List Value} (h : w.ownsRow 0 e s v n xs) : blk v = v.ownBlock := by
  rcases h.2 with ⟨h, _⟩ | ⟨g, cap, cur, h, _⟩ <;> rw [h] <;> rfl
theorem own_cell {w : World} {e : TypeId} {s n : Nat} {v : Value} {xs : List Value} (h : w.ownsRow 0 e s v n xs) {g : Nat} (hg : blk v = some g) (k : Nat) (hk : k < xs.length) : w.cell? ⟨g, k, none⟩ = xs[k]? := by
  have hb := blk_own h
  rw [hg] at hb
  have := h.cells (g := g) hb.symm k _ (List.getElem?_eq_getElem hk)
  rw [show ((⟨g, 0, none⟩ : Addr).add k) = ⟨g, k, none⟩ by unfold Addr.add; split <;> simp_all] at this
  rw [this, List.getElem?_eq_getElem hk]
theorem RelH.rerow {F : Frm} {c : Conc} {H : List O} {w w' : World} (h : RelH F c H w) {id : Nat} {x : Bool} {ver : Nat} {e : TypeId} {s : Nat} {xs : List D} (ho : H[id]? = some (.row x ver e s xs))
    (xs' : List D) (v' : Value) (cells' : List Value) (hg : w.grownBy w' (c.κ id).ownBlock) (hown : w'.ownsRow 0 e s v' xs'.length cells') (hy : ∀ y ∈ xs', y.leaves.length = s ∧ ∀ z ∈ y.leaves, z.one = true)
    (hr : ∀ k (hk : k < (flat xs').length), RdV c H ((flat xs')[k]'hk) (cells'.getD k undef)) (hat : v'.ownBlock = (c.κ id).ownBlock ∨ v'.ownBlock = some w.heap.size)
    (hpre : x = false → ∀ k, k < xs.length * s → cells'[k]? = w.cell? ⟨((c.κ id).ownBlock).getD 0, k, none⟩ ∧ k < xs'.length * s) (hnil : x = false → xs.length = 0 ∨ (c.κ id).ownBlock.isSome)
    (hsame : ∀ a v, c.Φ a = some v → (c.κ id).ownBlock = some a.block → w'.cell? a = some v) :
    ∃ c', RelH F c' (H.set id (.row x (ver + 1) e s xs')) w' ∧ Ext c H c' (H.set id (.row x (ver + 1) e s xs')) ∧ c'.κ id = v' := by
  have hid : id < H.length := (List.getElem?_eq_some_iff.1 ho).1
  have hok := h.objs id _ ho
  have hbr := blk_row hok
  have hbv := blk_own hown
  obtain ⟨h0, h1, cells, hown0, h2, h3⟩ := hok
  have hcl : cells'.length = xs'.length * s := hown.1
  let c' : Conc := ⟨fun a => if x = false ∧ blk v' = some a.block ∧ a.spot = none ∧ a.off < xs'.length * s then cells'[a.off]? else c.Φ a, fun i => if i = id then v' else c.κ i⟩
  have cell' : ∀ g, blk v' = some g → ∀ k, k < xs'.length * s → w'.cell? ⟨g, k, none⟩ = cells'[k]? := fun g hg k hk => own_cell hown hg k (by rw [hcl]; exact hk)
  have hΦ : ∀ a v, c.Φ a = some v → c'.Φ a = some v := by
    intro a v ha
    show (if x = false ∧ blk v' = some a.block ∧ a.spot = none ∧ a.off < xs'.length * s then cells'[a.off]? else c.Φ a) = some v
    split
    · rename_i hcond
      obtain ⟨b0, b1, b2, b3⟩ := hcond
      have hlt := World.block_lt_of_cell? w a (h.good a v ha)
      have hb : (c.κ id).ownBlock = some a.block := by
        rcases hat with hat | hat
        · rw [← hat, ← hbv]; exact b1
        · rw [← hbv, b1] at hat; have := Option.some.inj hat; omega
      have := hsame a v ha hb
      rw [← cell' a.block b1 a.off b3]
      have ea : a = ⟨a.block, a.off, none⟩ := by cases a; simp_all
      rw [← ea]; exact this
    · exact ha
  have hE : Ext c H c' (H.set id (.row x (ver + 1) e s xs')) := by
    refine ⟨hΦ, fun i o hi => ?_⟩
    by_cases hii : i = id
    · subst hii
      rw [ho] at hi; cases hi
      exact ⟨.row x (ver + 1) e s xs', List.getElem?_set_self hid, rfl, Nat.le_succ _, fun q => by simp [O.ver] at q⟩
    · exact ⟨o, by rw [List.getElem?_set_ne (by omega)]; exact hi, rfl, Nat.le_refl _, fun _ => if_neg hii⟩
  refine ⟨c', ?_, hE, if_pos rfl⟩
  refine h.step (c.κ id).ownBlock id hg (fun b hb => ⟨hid, by rw [hbr]; exact hb⟩) hE (fun i _ hne => if_neg hne) (fun i hi => List.getElem?_set_ne (by omega)) ?_ (fun a v ha hrow => hsame a v ha hrow) ?_ ?_ ?_
  · intro a v ha
    have ha' : (if x = false ∧ blk v' = some a.block ∧ a.spot = none ∧ a.off < xs'.length * s then cells'[a.off]? else c.Φ a) = some v := ha
    split at ha'
    · rename_i hcond
      obtain ⟨b0, b1, b2, b3⟩ := hcond
      right
      have ea : a = ⟨a.block, a.off, none⟩ := by cases a; simp_all
      refine ⟨by rw [ea, cell' a.block b1 a.off b3]; exact ha', ?_⟩
      rcases hat with hat | hat
      · right; refine ⟨hid, ?_⟩; rw [hbr, ← hat, ← hbv]; exact b1
      · left; rw [← hbv, b1] at hat; have := Option.some.inj hat; omega
    · exact .inl ha'
  · intro o hoo
    rw [List.getElem?_set_self hid] at hoo
    cases hoo
    have hκ' : c'.κ id = v' := if_pos rfl
    refine ⟨h0, hy, cells', by rw [hκ']; exact hown, fun k hk => (hr k hk).ext hE, fun g hg' => ?_⟩
    rw [hκ'] at hg'
    refine ⟨fun a v ha hb => ?_, fun hx k hk => ?_⟩
    · have ha' : (if x = false ∧ blk v' = some a.block ∧ a.spot = none ∧ a.off < xs'.length * s then cells'[a.off]? else c.Φ a) = some v := ha
      split at ha'
      · rename_i hcond; exact ⟨hcond.1, hcond.2.2.2⟩
      · have hlt := World.block_lt_of_cell? w a (h.good a v ha')
        have hbb : (c.κ id).ownBlock = some a.block := by
          rcases hat with hat | hat
          · rw [← hat, ← hbv, hg', hb]
          · rw [← hbv, hg'] at hat; have := Option.some.inj hat; omega
        obtain ⟨k1, k2⟩ := h3 a.block (by rw [hbr]; exact hbb)
        obtain ⟨k3, k4⟩ := k1 a v ha' rfl
        have := (hpre k3 a.off k4).2
        exact ⟨k3, this⟩
    · show (if x = false ∧ blk v' = some g ∧ (none : Option Nat) = none ∧ k < xs'.length * s then cells'[k]? else _) = cells'[k]?
      rw [if_pos ⟨hx, hg', rfl, hk⟩]
  · intro b _ hb
    have hκ' : c'.κ id = v' := if_pos rfl
    rw [hκ'] at hb
    rcases hat with hat | hat
    · left; refine ⟨hid, ?_⟩; rw [hbr, ← hat, ← hbv]; exact hb
    · right; rw [← hbv, hb] at hat; have := Option.some.inj hat; omega
  · intro ver' es hm; rw [ho] at hm; cases hm
theorem append_moves {P : Program} {w : World} {t ty e : TypeId} {i : TypeInfo} {z : Value} {s bytes : Nat} (ht : P.underlying t = some (.slice e)) (hi : P.info? e = some i) (hz : i.zero = some z) (hsize : i.size = s) (hby : i.bytes = bytes) (hzs : z.cells.size = s) (h0 : 0 < s)
    {v : Value} {n : Nat} {cells : List Value} (hown : w.ownsRow 0 e s v n cells) (ad : Addr) (m cap : Nat) (news : List Value) (hl : news.length = m * s) (hnews : ∀ j u, news[j]? = some u → w.cell? (ad.add j) = some u) (hm : 0 < m) (h63 : n + m ≤ maxLen)
    (hb : (n + m) * bytes ≤ 140737488355328) {v' : Value} {w' : World} (hrun : (Builtin.append_ #[t, t] ty #[v, .slice (some ad) m cap]).run P w = .ok v' w') : v'.ownBlock = v.ownBlock ∨ w.grownBy w' none := by
  have hsmall : n + m ≤ 9223372036854775807 := by simp only [maxLen] at h63; omega
  subst hsize
  subst hby
  rcases hown.2 with ⟨rfl, rfl⟩ | ⟨g, cp, cur, rfl, _, hg, hnc, hcm, hcs, htake⟩
  · right
    have hr := run_append_nil (P := P) w t ty e i z ht hi hz ad m cap news hl hnews hm (by omega) (by simp only [Nat.zero_add] at hb; omega)
    rw [hr] at hrun
    injection hrun with _ hw
    rw [← hw]
    exact ⟨rfl, rfl, rfl, by simp, fun k hk _ => heap_alloc_old w.drew _ k hk⟩
  · by_cases hroom : n + m ≤ cp
    · left
      have hrun' := hrun
      cases news with
      | nil =>
        have : m * i.size = 0 := by simpa using hl.symm
        rcases Nat.mul_eq_zero.1 this with q | q <;> omega
      | cons u us =>
        have hv : ∃ w'', (Builtin.append_ #[t, t] ty #[.slice (some ⟨g, 0, none⟩) n cp, .slice (some ad) m cap]).run P w = .ok (.slice (some ⟨g, 0, none⟩) (n + m) cp) w'' := by
          have hf := run_firstCells_some (P := P) w i.size m ad m cap (u :: us) hl hnews
          have key : ∀ w'' v'', (Builtin.append_ #[t, t] ty #[.slice (some ⟨g, 0, none⟩) n cp, .slice (some ad) m cap]).run P w = .ok v'' w'' → v'' = .slice (some ⟨g, 0, none⟩) (n + m) cp := by
            intro w'' v'' hh
            simp [Builtin.append_, run_underlying ht, sizeOf, typeInfo, hi, Builtin.lenOf, hroom, hf, Addr.add_lit] at hh
            cases hst : (storeCells (⟨g, n * i.size, none⟩ : Addr) (u :: us)).run P w with
            | ok a wa => rw [hst] at hh; simp at hh; exact hh.1.symm
            | halt a wa => rw [hst] at hh; simp at hh
          exact ⟨w', by rw [← key w' v' hrun']; exact hrun'⟩
        obtain ⟨w'', hw''⟩ := hv
        rw [hw''] at hrun
        injection hrun with hv' _
        rw [← hv']; rfl
    · right
      have holds : ∀ j u, cells[j]? = some u → w.cell? ((⟨g, 0, none⟩ : Addr).add j) = some u := hown.cells (g := g) rfl
      have hr := run_append_grow (P := P) w t ty e i z ht hi hz ⟨g, 0, none⟩ n cp cells hown.1 holds ad m cap news hl hnews (by omega) (by omega) (growslice_fits (by omega) hb)
      rw [hr] at hrun
      injection hrun with _ hw
      rw [← hw]
      exact ⟨rfl, rfl, rfl, by simp, fun k hk _ => heap_alloc_old w.drew _ k hk⟩
theorem RelH.append {P : Program} {F : Frm} {c : Conc} {H : List O} {w : World} (h : RelH F c H w) {id : Nat} {x : Bool} {ver : Nat} {e : TypeId} {s : Nat} {xs : List D} (ho : H[id]? = some (.row x ver e s xs))
    {t ty : TypeId} {i : TypeInfo} {z : Value} {bytes : Nat} (ht : P.underlying t = some (.slice e)) (hi : P.info? e = some i) (hz : i.zero = some z) (hsize : i.size = s) (hby : i.bytes = bytes) (hzs : z.cells.size = s)
    {ys : List D} {a : Option Addr} {m cap : Nat} (hy : ∀ y ∈ ys, y.leaves.length = s) (hread : RdV c H (.sl ys) (.slice a m cap)) (hb : (xs.length + ys.length) * bytes ≤ 140737488355328) (h63 : xs.length + ys.length ≤ maxLen) :
    ∃ v' w' c', (Builtin.append_ #[t, t] ty #[c.κ id, .slice a m cap]).run P w = .ok v' w' ∧ RelH F c' (H.set id (.row x (ver + 1) e s (xs ++ ys))) w' ∧ Ext c H c' (H.set id (.row x (ver + 1) e s (xs ++ ys))) ∧ c'.κ id = v' ∧ ∃ a' n' cap', v' = .slice a' n' cap' := by
  have hok := h.objs id _ ho
  have hbr := blk_row hok
  obtain ⟨h0, h1, cells, hown, h2, h3⟩ := hok
  obtain ⟨news, n1, n2, n2', n3, n4, n5, n6⟩ := sl_news hread h0 hy
  have hfl : (flat xs).length = xs.length * s := flat_length fun y hy => (h1 y hy).1
  have hcl : cells.length = xs.length * s := hown.1
  have hy' : ∀ y ∈ xs ++ ys, y.leaves.length = s ∧ ∀ z ∈ y.leaves, z.one = true := by
    intro y hyy
    rcases List.mem_append.1 hyy with q | q
    · exact h1 y q
    · refine ⟨hy y q, ?_⟩
      obtain ⟨j, hj, rfl⟩ := List.getElem_of_mem q
      exact n6 j hj
  have hr' : ∀ k (hk : k < (flat (xs ++ ys)).length), RdV c H ((flat (xs ++ ys))[k]'hk) ((cells ++ news).getD k undef) := by
    intro k hk
    simp only [flat_append] at hk ⊢
    by_cases hlt : k < (flat xs).length
    · rw [List.getElem_append_left hlt]
      have : (cells ++ news).getD k undef = cells.getD k undef := by
        simp only [List.getD_eq_getElem?_getD]
        rw [List.getElem?_append_left (by rw [hcl, ← hfl]; exact hlt)]
      rw [this]
      exact h2 k hlt
    · rw [List.getElem_append_right (by omega)]
      have : (cells ++ news).getD k undef = news.getD (k - (flat xs).length) undef := by
        simp only [List.getD_eq_getElem?_getD]
        rw [List.getElem?_append_right (by omega), hcl, hfl]
      rw [this]
      exact n5 _ _
  have hpre : x = false → ∀ k, k < xs.length * s → (cells ++ news)[k]? = w.cell? ⟨((c.κ id).ownBlock).getD 0, k, none⟩ ∧ k < (xs ++ ys).length * s := by
    intro hx k hk
    refine ⟨?_, by rw [List.length_append, Nat.add_mul]; omega⟩
    rw [List.getElem?_append_left (by omega)]
    rcases hown.2 with ⟨hn, hz'⟩ | ⟨g, cap, cur, hv, _⟩
    · rw [hz'] at hk; omega
    · have hg : blk (c.κ id) = some g := by rw [hv]; rfl
      rw [show (c.κ id).ownBlock = some g by rw [← hbr]; exact hg]
      exact (own_cell hown hg k (by omega)).symm
  have hnil : x = false → xs.length = 0 ∨ (c.κ id).ownBlock.isSome := by
    intro _
    rcases hown.2 with ⟨hn, hz'⟩ | ⟨g, cap, cur, hv, _⟩
    · exact .inl hz'
    · right; rw [hv]; rfl
  have hsl : ∃ a' n' cap', c.κ id = .slice a' n' cap' ∧ n' = xs.length ∧ n' ≤ cap' := by
    rcases hown.2 with ⟨hn, hz'⟩ | ⟨g, cap, cur, hv, _, _, hle, _⟩
    · exact ⟨_, _, _, hn, hz'.symm, Nat.le_refl _⟩
    · exact ⟨_, _, _, hv, rfl, hle⟩
  by_cases hm : ys.length = 0
  · have hys : ys = [] := List.eq_nil_of_length_eq_zero hm
    subst hys
    have hnw : news = [] := List.eq_nil_of_length_eq_zero (by simpa using n1)
    subst hnw
    obtain ⟨a', n', cap', hk, hn', hle'⟩ := hsl
    have hrun : (Builtin.append_ #[t, t] ty #[c.κ id, .slice a m cap]).run P w = .ok (c.κ id) w := by
      simp only [List.length_nil] at n2
      rw [hk]
      cases a <;> cases a' <;> simp [Builtin.append_, run_underlying ht, sizeOf, typeInfo, hi, Builtin.lenOf, n2, hle', Builtin.firstCells, loadCells, loadCellsFrom, storeCells]
    obtain ⟨c', k1, k2, k3⟩ := h.rerow ho (xs ++ []) (c.κ id) (cells ++ []) (grownBy_refl _ _) (by simpa using hown) hy' hr' (.inl rfl) hpre hnil (fun a v ha _ => h.good a v ha)
    exact ⟨_, w, c', hrun, k1, k2, k3, a', n', cap', hk⟩
  · obtain ⟨ad, ha, hnews⟩ := n3 (by omega)
    subst ha
    obtain ⟨v', w', hrun, j1, j2, j3, j4⟩ := run_append_own_at (P := P) w 0 t ty e i z s bytes ht hi hz hsize hby hzs h0 (c.κ id) xs.length cells hown ad m cap news (by rw [n2]; exact n1) (fun k u hu => h.good _ _ (hnews k u hu)) n4
      (by rw [n2]; exact h63) (by rw [n2]; exact hb) (Nat.zero_le _)
    have hmv := append_moves (P := P) (ty := ty) ht hi hz hsize hby hzs h0 hown ad m cap news (by rw [n2]; exact n1) (fun k u hu => h.good _ _ (hnews k u hu)) (by omega) (by rw [n2]; exact h63) (by rw [n2]; exact hb) hrun
    have hsame : ∀ a v, c.Φ a = some v → (c.κ id).ownBlock = some a.block → w'.cell? a = some v := by
      intro a' v ha' hb'
      have hg : blk (c.κ id) = some a'.block := by rw [hbr]; exact hb'
      obtain ⟨k1, k2⟩ := h3 a'.block hg
      obtain ⟨k3, k4⟩ := k1 a' v ha' rfl
      have hw := h.good a' v ha'
      have hsp : a'.spot = none := by
        unfold World.cell? at hw
        split at hw
        · split at hw
          · cases hw
          · rename_i hh; simpa using hh
        · cases hw
      have ea : a' = ⟨a'.block, a'.off, none⟩ := by cases a'; simp_all
      have hval : w.cell? ⟨a'.block, a'.off, none⟩ = cells[a'.off]? := own_cell hown hg a'.off (by omega)
      rw [← ea, hw] at hval
      rcases j4 with j4 | j4
      · have hg' : blk v' = some a'.block := by rw [blk_own j1, j4]; exact hb'
        have := own_cell j1 hg' a'.off (by rw [List.length_append]; omega)
        rw [← ea, List.getElem?_append_left (by omega)] at this
        rw [this, hval]
      · 
        have hlt := World.block_lt_of_cell? w a' hw
        by_cases hsame : v'.ownBlock = (c.κ id).ownBlock
        · have hg' : blk v' = some a'.block := by rw [blk_own j1, hsame]; exact hb'
          have := own_cell j1 hg' a'.off (by rw [List.length_append]; omega)
          rw [← ea, List.getElem?_append_left (by omega)] at this
          rw [this, hval]
        · rcases hmv with q | q
          · exact absurd q hsame
          · exact q.cell hw (by simp)
    obtain ⟨c', k1, k2, k3⟩ := h.rerow ho (xs ++ ys) v' (cells ++ news) j2 (by rw [List.length_append, ← n2]; exact j1) hy' hr' j4 hpre hnil hsame
    have hv' : ∃ a' n' cap', v' = .slice a' n' cap' := by
      rcases j1.2 with ⟨hn, _⟩ | ⟨g, cap, cur, hv, _⟩
      · exact ⟨_, _, _, hn⟩
      · exact ⟨_, _, _, hv⟩
    exact ⟨v', w', c', hrun, k1, k2, k3, hv'⟩
end Go.DL
set_option linter.unusedVariables false
set_option linter.unusedSimpArgs false
namespace Go.DL
open Go
inductive X where
  | s (t : Nat)
  | c (d : D)
  | g (n : Nat)
def X.val (G : Nat → D) (s : Nat → D) : X → D
  | .s t => s t
  | .c d => d
  | .g n => G n
def Operand.toX : Operand → Option X
  | .tmp t => some (.s t)
  | .const v => match v with
    | .agg cs => if cs.toList.all (·.oneCell') then some (.c (.agg (cs.toList.map .lit))) else none
    | v => some (.c (.lit v))
  | .global g => some (.g g)
  | .func f => some (.c (.fn f []))
theorem toX_ok {G : Nat → D} {F : Frm} {n : Nat} {c : Conc} {σ : St} {a : Act} {w : World} (hr : Rel G F n c σ a w) {x : Operand} {y : X} (h : Operand.toX x = some y) : RdV c σ.H (y.val G σ.s) (a.eval x) := by
  cases x with
  | tmp t => simp only [Operand.toX, Option.some.injEq] at h; subst h; exact hr.slots t
  | const v =>
    cases v with
    | agg cs =>
      simp only [Operand.toX] at h
      split at h
      · rename_i hall
        simp only [Option.some.injEq] at h; subst h
        refine .agg _ cs (by simp) (fun i hi => ?_) (fun i hi => ?_)
        · simp only [List.length_map, Array.length_toList] at hi
          simp only [List.getElem_map, Array.getElem_toList, D.one]
          exact List.all_eq_true.1 hall _ (Array.mem_toList_iff.2 (Array.getElem_mem hi))
        · simp only [List.length_map, Array.length_toList] at hi
          simp only [List.getElem_map, Array.getElem_toList]
          have : cs.getD i undef = cs[i] := by simp [Array.getD, hi]
          rw [this]; exact .lit _
      · cases h
    | _ => simp only [Operand.toX, Option.some.injEq] at h; subst h; exact .lit _
  | global g => simp only [Operand.toX, Option.some.injEq] at h; subst h; exact hr.glob g
  | func f =>
    simp only [Operand.toX, Option.some.injEq] at h; subst h
    exact .fn f [] #[] rfl (fun i hi => by simp at hi)
def binL (op : BinOp) : Value → Value → Option Value
  | .int k a, .int k' b => if k = k' then match op with
      | .add => some (.int k (k.wrap (a + b)))
      | .sub => some (.int k (k.wrap (a - b)))
      | .mul => some (.int k (k.wrap (a * b)))
      | .quo => if b = 0 then none else some (.int k (k.wrap (a.tdiv b)))
      | .rem => if b = 0 then none else some (.int k (a.tmod b))
      | .eql => some (.bool (a == b))
      | .neq => some (.bool (a != b))
      | .lss => some (.bool (decide (a < b)))
      | .leq => some (.bool (decide (a ≤ b)))
      | .gtr => some (.bool (decide (a > b)))
      | .geq => some (.bool (decide (a ≥ b)))
      | _ => none else none
  | .string a, .string b => match op with
      | .add => if a.size + b.size ≤ 9223372036854775807 then some (.string (a ++ b)) else none
      | .eql => some (.bool (a.toList == b.toList))
      | .neq => some (.bool !(a.toList == b.toList))
      | .lss => some (.bool (Op.bytesLess a.toList b.toList))
      | .leq => some (.bool (Op.bytesLess a.toList b.toList || a.toList == b.toList))
      | .gtr => some (.bool !(Op.bytesLess a.toList b.toList || a.toList == b.toList))
      | .geq => some (.bool !(Op.bytesLess a.toList b.toList))
      | _ => none
  | _, _ => none
theorem run_binL {P : Program} {op : BinOp} {t : TypeId} {x y : Operand} {u v r : Value} (h : binL op u v = some r) (w : World) : (do eqGuard op t x y u v; binOp op t u v : Sem Value).run P w = .ok r w := by
  unfold binL at h
  split at h
  · rename_i k a k' b
    split at h
    · rename_i hk
      subst hk
      have hg : eqGuard op t x y (.int k a) (.int k b) = pure () := eqGuard_at_int op t x y (.int k b) k a
      rw [hg]
      cases op <;> simp only [Option.some.injEq] at h <;> first
        | (cases h; done)
        | (subst h; simp [binOp, Op.intArith, Op.intCmp]; done)
        | (split at h
           · cases h
           · rename_i hb
             simp only [Option.some.injEq] at h; subst h
             simp [binOp, Op.intDiv, hb])
    · cases h
  · rename_i a b
    have hg : eqGuard op t x y (.string a) (.string b) = pure () := eqGuard_at_string op t x y (.string b) a
    rw [hg]
    cases op <;> simp only [Option.some.injEq] at h <;> first
      | (cases h; done)
      | (subst h; simp [binOp, Op.stringOp]; done)
      | (split at h
         · rename_i hb
           simp only [Option.some.injEq] at h; subst h
           have : ¬ (9223372036854775807 : Int) < (a.size : Int) + (b.size : Int) := by omega
           simp [binOp, Op.stringOp, this]
         · cases h)
  · cases h
def eqB (op : BinOp) (b : Bool) : Option D :=
  match op with
  | .eql => some (.lit (.bool b))
  | .neq => some (.lit (.bool !b))
  | _ => none
def boolD (op : BinOp) : D → D → Option D
  | .lit (.bool a), .lit (.bool b) => eqB op (a == b)
  | _, _ => none
def nilD (op : BinOp) : D → D → Option D
  | .lit .nilIface, .lit .nilIface => eqB op true
  | .nn, .lit .nilIface => eqB op false
  | .lit .nilIface, .nn => eqB op false
  | .lit (.iface _ _), .lit .nilIface => eqB op false
  | _, _ => none
def unD (op : UnOp) : D → Option D
  | .lit (.int k n) => match op with
    | .neg => some (.lit (.int k (k.wrap (0 - n))))
    | _ => none
  | .lit (.bool b) => match op with
    | .not => some (.lit (.bool !b))
    | _ => none
  | _ => none
def fillD (z : List D) : List (Nat × List D) → List D
  | [] => z
  | (off, ys) :: rest => fillD (z.take off ++ ys ++ z.drop (off + ys.length)) rest
inductive DO where
  | mv (x : X)
  | pick (c a b : X)
  | alloc (e : TypeId) (z : List D)
  | box (e : TypeId) (x : X)
  | bld (z : List D) (parts : List (Nat × Nat × X))
  | bsl (row : Bool) (e : TypeId) (s : Nat) (parts : List X)
  | load (n : Nat) (agg : Bool) (x : X)
  | store (n : Nat) (x y : X)
  | nilck (x : X)
  | bin (op : BinOp) (x y : X)
  | eqb (op : BinOp) (x y : X)
  | eqn (op : BinOp) (x y : X)
  | un (op : UnOp) (x : X)
  | conv (k : IntKind) (x : X)
  | str (x : X)
  | mkfn (f : FuncId) (caps : List X)
  | mkmap
  | slcS (x : X) (lo hi : Option X)
  | slcL (s : Nat) (x : X) (lo hi : Option X)
  | fad (off : Nat) (x : X)
  | fld (off n : Nat) (agg : Bool) (x : X)
  | iad (s : Nat) (x i : X)
  | iaa (s n : Nat) (x i : X)
  | idxS (x i : X)
  | ext (x : X) (i : Nat)
  | call (f : X) (args : List X)
  | lenS (x : X)
  | lenL (x : X)
  | lenM (x : X)
  | app (e : TypeId) (s bytes : Nat) (x y : X)
  | appS (e : TypeId) (x y : X)
  | frz (t : Nat)
  | slcA (n : Nat) (x : X)
  | idxA (sz n : Nat) (agg : Bool) (x i : X)
  | mput (kd : TypeDesc) (x k y : X)
  | mget (kd : TypeDesc) (z : Value) (ok : Bool) (x k : X)
  | rng (x : X)
  | nxt (x : X)
  | ent (x : X)
def newElem (y : D) (ys : List D) : D :=
  match y with
  | .agg _ => .agg ys
  | _ => ys.headD .junk
def boundOf (s : Nat → D) (G : Nat → D) (d : Nat) : Option X → Option Int
  | none => some d
  | some x => match x.val G s with
    | .lit (.int _ n) => some n
    | _ => none
def findE (kd : TypeDesc) (k : Value) (es : List (Value × D)) : Option Nat := es.findIdx? fun p => Instr.sameNow kd k p.1 == some true
def putE (kd : TypeDesc) (k : Value) (d : D) (es : List (Value × D)) : List (Value × D) :=
  match findE kd k es with
  | some i => es.set i (k, d)
  | none => es ++ [(k, d)]
def getE (kd : TypeDesc) (k : Value) (es : List (Value × D)) : Option D := (findE kd k es).bind fun i => (es[i]?).map (·.2)
def foundD (z : Value) (ok : Bool) (o : Option D) : D :=
  if ok then .tup [o.getD (.lit z), .lit (.bool o.isSome)] else o.getD (.lit z)
def vcOp (CA : FuncId → List D → List O → (D → List O → Prop) → Prop) (G : Nat → D) (o : DO) (s : Nat → D) (H : List O) (K : D → List O → Prop) : Prop :=
  match o with
  | .mv x => K (x.val G s) H
  | .pick c a b => match c.val G s with
    | .lit (.bool t) => (t = true → K (a.val G s) H) ∧ (t = false → K (b.val G s) H)
    | _ => False
  | .alloc e z => K (.ptr H.length 0) (H ++ [.box e z])
  | .box e x => (x.val G s).whole ∧ K (.ptr H.length 0) (H ++ [.box e (x.val G s).leaves])
  | .bld z parts => (∀ p ∈ parts, (p.2.2.val G s).whole ∧ (p.2.2.val G s).leaves.length = p.2.1 ∧ p.1 + p.2.1 ≤ z.length) ∧ K (.agg (fillD z (parts.map fun p => (p.1, (p.2.2.val G s).leaves)))) H
  | .bsl row e sz parts => (∀ x ∈ parts, (x.val G s).whole ∧ (x.val G s).leaves.length = sz) ∧
      if row then K (.row H.length 0) (H ++ [.row true 0 e sz (parts.map (X.val G s))]) else K (.sl (parts.map (X.val G s))) H
  | .load n agg x => match x.val G s with
    | .el ys => n ≤ ys.length ∧ K (mkD agg (ys.take n)) H
    | .ptr id off => match H[id]? with
      | some (.box _ ys) => off + n ≤ ys.length ∧ K (mkD agg ((ys.drop off).take n)) H
      | _ => False
    | .rel id ver j k => match H[id]? with
      | some (.row _ v _ sz xs) => v = ver ∧ k + n ≤ sz ∧ ∃ y, xs[j]? = some y ∧ K (mkD agg ((y.leaves.drop k).take n)) H
      | _ => False
    | _ => False
  | .store n x y => (y.val G s).whole ∧ (y.val G s).leaves.length = n ∧ match x.val G s with
    | .ptr id off => match H[id]? with
      | some (.box e ys) => off + n ≤ ys.length ∧ K (.lit undef) (H.set id (.box e (ys.take off ++ (y.val G s).leaves ++ ys.drop (off + n))))
      | _ => False
    | .rel id ver j k => match H[id]? with
      | some (.row true v e sz xs) => v = ver ∧ k + n ≤ sz ∧ ∃ z, xs[j]? = some z ∧ K (.lit undef) (H.set id (.row true v e sz (xs.set j (newElem z (z.leaves.take k ++ (y.val G s).leaves ++ z.leaves.drop (k + n))))))
      | _ => False
    | _ => False
  | .nilck x => match x.val G s with
    | .ptr id off => K (.ptr id off) H
    | .rel id ver j k => K (.rel id ver j k) H
    | .el ys => K (.el ys) H
    | .fn f caps => K (.fn f caps) H
    | _ => False
  | .bin op x y => match x.val G s, y.val G s with
    | .lit u, .lit v => match binL op u v with
      | some r => K (.lit r) H
      | none => False
    | _, _ => False
  | .eqb op x y => match boolD op (x.val G s) (y.val G s) with
    | some d => K d H
    | none => False
  | .eqn op x y => match nilD op (x.val G s) (y.val G s) with
    | some d => K d H
    | none => False
  | .un op x => match unD op (x.val G s) with
    | some d => K d H
    | none => False
  | .conv k x => match x.val G s with
    | .lit (.int _ n) => K (.lit (.int k (k.wrap n))) H
    | _ => False
  | .str x => ∃ bs : List UInt8, x.val G s = .sl (bs.map fun b => .lit (.int .u8 b.toNat)) ∧ K (.lit (.string ⟨bs.toArray⟩)) H
  | .mkfn f caps => K (.fn f (caps.map (X.val G s))) H
  | .mkmap => K (.mp H.length) (H ++ [.map 0 []])
  | .slcS x lo hi => match x.val G s with
    | .lit (.string b) => ∃ l h, boundOf s G 0 lo = some l ∧ boundOf s G b.size hi = some h ∧ 0 ≤ l ∧ l ≤ h ∧ h ≤ b.size ∧ K (.lit (.string (b.extract l.toNat h.toNat))) H
    | _ => False
  | .slcL sz x lo hi => match x.val G s with
    | .sl xs => ∃ l h, boundOf s G 0 lo = some l ∧ boundOf s G xs.length hi = some h ∧ 0 ≤ l ∧ l ≤ h ∧ h ≤ xs.length ∧ (∀ y ∈ xs, y.leaves.length = sz) ∧ K (.sl ((xs.take h.toNat).drop l.toNat)) H
    | _ => False
  | .fad off x => match x.val G s with
    | .ptr id o => K (.ptr id (o + off)) H
    | .el ys => K (.el (ys.drop off)) H
    | .rel id ver j k => K (.rel id ver j (k + off)) H
    | _ => False
  | .fld off n agg x => match x.val G s with
    | .agg ys => off + n ≤ ys.length ∧ K (mkD agg ((ys.drop off).take n)) H
    | _ => False
  | .iad sz x i => match x.val G s, i.val G s with
    | .sl xs, .lit (.int _ n) => 0 ≤ n ∧ ∃ y, xs[n.toNat]? = some y ∧ y.leaves.length = sz ∧ K (.el y.leaves) H
    | .row id ver, .lit (.int _ n) => match H[id]? with
      | some (.row _ v _ sz' xs) => v = ver ∧ sz' = sz ∧ 0 ≤ n ∧ n < xs.length ∧ K (.rel id ver n.toNat 0) H
      | _ => False
    | _, _ => False
  | .iaa sz n x i => match x.val G s, i.val G s with
    | .el ys, .lit (.int _ k) => 0 ≤ k ∧ k < n ∧ K (.el (ys.drop (k.toNat * sz))) H
    | .ptr id off, .lit (.int _ k) => 0 ≤ k ∧ k < n ∧ K (.ptr id (off + k.toNat * sz)) H
    | _, _ => False
  | .idxS x i => match x.val G s, i.val G s with
    | .lit (.string b), .lit (.int _ n) => 0 ≤ n ∧ ∃ u, b[n.toNat]? = some u ∧ K (.lit (.int .u8 u.toNat)) H
    | _, _ => False
  | .ext x i => match x.val G s with
    | .tup ds => ∃ d, ds[i]? = some d ∧ K d H
    | _ => False
  | .call f args => match f.val G s with
    | .fn f caps => CA f (args.map (X.val G s) ++ caps) H K
    | _ => False
  | .lenS x => match x.val G s with
    | .lit (.string b) => K (.lit (.int .i64 b.size)) H
    | _ => False
  | .lenL x => match x.val G s with
    | .lit (.slice none 0 0) => K (.lit (.int .i64 0)) H
    | .sl xs => K (.lit (.int .i64 xs.length)) H
    | .row id ver => match H[id]? with
      | some (.row _ v _ _ xs) => v = ver ∧ K (.lit (.int .i64 xs.length)) H
      | _ => False
    | _ => False
  | .lenM x => match x.val G s with
    | .mp id => match H[id]? with
      | some (.map _ es) => K (.lit (.int .i64 es.length)) H
      | _ => False
    | _ => False
  | .app e sz bytes x y => match x.val G s, y.val G s with
    | .row id ver, .sl ys => match H[id]? with
      | some (.row b v e' sz' xs) => v = ver ∧ e' = e ∧ sz' = sz ∧ (∀ y ∈ ys, y.leaves.length = sz) ∧ (xs.length + ys.length) * bytes ≤ 140737488355328 ∧ K (.row id (ver + 1)) (H.set id (.row b (ver + 1) e sz (xs ++ ys)))
      | _ => False
    | .lit (.slice none 0 0), .sl ys => (∀ y ∈ ys, y.leaves.length = sz) ∧ ys.length * bytes ≤ 140737488355328 ∧ K (.row H.length 1) (H ++ [.row true 1 e sz ys])
    | _, _ => False
  | .appS e x y => match x.val G s, y.val G s with
    | .row id ver, .lit (.string b) => match H[id]? with
      | some (.row true v e' sz' xs) => v = ver ∧ e' = e ∧ sz' = 1 ∧ xs.length + b.size ≤ 140737488355328 ∧ K (.row id (ver + 1)) (H.set id (.row true (ver + 1) e 1 (xs ++ b.data.toList.map fun u => .lit (.int .u8 u.toNat))))
      | _ => False
    | .lit (.slice none 0 0), .lit (.string b) => b.size ≤ 140737488355328 ∧ K (.row H.length 1) (H ++ [.row true 1 e 1 (b.data.toList.map fun u => .lit (.int .u8 u.toNat))])
    | _, _ => False
  | .frz _ => False
  | .slcA n x => match x.val G s with
    | .el ys => n ≤ ys.length ∧ K (.sl (ys.take n)) H
    | _ => False
  | .idxA sz n agg x i => match x.val G s, i.val G s with
    | .agg ys, .lit (.int _ k) => 0 ≤ k ∧ k < n ∧ k.toNat * sz + sz ≤ ys.length ∧ K (mkD agg ((ys.drop (k.toNat * sz)).take sz)) H
    | _, _ => False
  | .mput kd x k y => match x.val G s, k.val G s with
    | .mp id, .lit kv => match H[id]? with
      | some (.map mv es) => MapKept.IsKey kd kv ∧ (∀ p ∈ es, MapKept.IsKey kd p.1) ∧ K (.lit undef) (H.set id (.map (mv + 1) (putE kd kv (y.val G s) es)))
      | _ => False
    | _, _ => False
  | .mget kd z ok x k => match x.val G s, k.val G s with
    | .mp id, .lit kv => match H[id]? with
      | some (.map _ es) => MapKept.IsKey kd kv ∧ (∀ p ∈ es, MapKept.IsKey kd p.1) ∧ K (foundD z ok (getE kd kv es)) H
      | _ => False
    | _, _ => False
  | .rng x => match x.val G s with
    | .mp id => match H[id]? with
      | some (.map mv es) => K (.it H.length) (H ++ [.iter id mv es none])
      | _ => False
    | _ => False
  | .nxt x => match x.val G s with
    | .it id => match H[id]? with
      | some (.iter m mv left _) => match H[m]? with
        | some (.map mv' _) => mv = mv' ∧ (left = [] → K (.tup [.lit (.bool false)]) H) ∧ ∀ i, (h : i < left.length) → K (.tup [.lit (.bool true), .lit (left[i]'h).1, (left[i]'h).2]) (H.set id (.iter m mv (left.eraseIdx i) (some (left[i]'h))))
        | _ => False
      | _ => False
    | _ => False
  | .ent x => match x.val G s with
    | .it id => match H[id]? with
      | some (.iter m mv _ (some (k, d))) => match H[m]? with
        | some (.map mv' _) => mv = mv' ∧ K (.tup [.lit k, d]) H
        | _ => False
      | _ => False
    | _ => False
end Go.DL
set_option linter.unusedVariables false
set_option linter.unusedSimpArgs false
namespace Go.DL
open Go
section
variable {P : Program} {G : Nat → D} {o : Oper} {s : Nat → D} {H : List O} {K : D → List O → Prop}
theorem OpA.pure (h : ∀ (F : Frm) (n : Nat) (c : Conc) (a : Act) (w : World), Rel G F n c ⟨s, H⟩ a w → ∃ v d, (execOp a.eval o).run P w = .ok (.value v) w ∧ RdV c H d v ∧ K d H) : OpA P G o s H K :=
  fun F n c a w hr => let ⟨v, d, h1, h2, h3⟩ := h F n c a w hr; .inl ⟨v, w, c, H, d, h1, hr.hp, Ext.refl _ _, h2, h3⟩
theorem sound_mv {x : Operand} {y : X} (ho : o.op = .move x ∨ o.op = .assign x) (hx : Operand.toX x = some y) (h : K (y.val G s) H) : OpA P G o s H K :=
  .pure fun F n c a w hr => ⟨a.eval x, y.val G s, by rcases ho with ho | ho <;> simp [execOp, ho], toX_ok hr hx, h⟩
theorem sound_pick {x y z : Operand} {x' y' z' : X} (ho : o.op = .pick x y z) (hx : Operand.toX x = some x') (hy : Operand.toX y = some y') (hz : Operand.toX z = some z') (CA) (h : vcOp CA G (.pick x' y' z') s H K) : OpA P G o s H K :=
  .pure fun F n c a w hr => by
    have h1 := toX_ok hr hx
    simp only [vcOp] at h
    generalize x'.val G s = d at h h1
    split at h
    · rename_i t
      generalize hv : a.eval x = v at h1
      cases h1
      cases t with
      | true => exact ⟨a.eval y, _, by simp [execOp, ho, hv, asBool], toX_ok hr hy, h.1 rfl⟩
      | false => exact ⟨a.eval z, _, by simp [execOp, ho, hv, asBool], toX_ok hr hz, h.2 rfl⟩
    · exact h.elim
theorem RdV.lits {c : Conc} {H : List O} (cs : Array Value) (i : Nat) (h : i < (cs.toList.map D.lit).length) : RdV c H ((cs.toList.map D.lit)[i]'h) (cs.getD i undef) := by
  simp only [List.length_map, Array.length_toList] at h
  simp only [List.getElem_map, Array.getElem_toList]
  have : cs.getD i undef = cs[i] := by simp [Array.getD, h]
  rw [this]; exact .lit _
theorem sound_alloc {e : TypeId} {i : TypeInfo} {z : Value} (ho : o.op = .alloc e) (hi : P.info? e = some i) (hz : i.zero = some z) (h1 : z.cells.toList.all (·.oneCell') = true) (CA) (h : vcOp CA G (.alloc e (z.cells.toList.map .lit)) s H K) : OpA P G o s H K := by
  intro F n c a w hr
  refine .inl ⟨.pointer (some ⟨w.heap.size, 0, none⟩), w.alloc (.cells z.cells e), updκ c H.length (.pointer (some ⟨w.heap.size, 0, none⟩)), H ++ [.box e (z.cells.toList.map .lit)], .ptr H.length 0, ?_, ?_, Ext.push _ _, ?_, ?_⟩
  · simp [execOp, ho, Instr.alloc, zeroValue, typeInfo, hi, hz, newVar, newRow]
  · refine hr.hp.push_box e _ z.cells (by simp) ?_ (fun i hi => RdV.lits z.cells i hi)
    intro y hy
    obtain ⟨u, hu, rfl⟩ := List.mem_map.1 hy
    exact List.all_eq_true.1 h1 u hu
  · exact .ptr H.length 0 _ _ (by rw [getElem?_snoc, if_pos rfl]) rfl rfl (by simp [updκ])
  · exact h
theorem sound_box {e : TypeId} {x : Operand} {x' : X} (ho : o.op = .box e x) (hx : Operand.toX x = some x') (CA) (h : vcOp CA G (.box e x') s H K) : OpA P G o s H K := by
  intro F n c a w hr
  have hv := toX_ok hr hx
  obtain ⟨hw, hK⟩ := h
  obtain ⟨k1, k2, k3, k4⟩ := hv.cells hw
  refine .inl ⟨.pointer (some ⟨w.heap.size, 0, none⟩), w.alloc (.cells (a.eval x).cells e), updκ c H.length (.pointer (some ⟨w.heap.size, 0, none⟩)), H ++ [.box e (x'.val G s).leaves], .ptr H.length 0, ?_, ?_, Ext.push _ _, ?_, hK⟩
  · simp [execOp, ho, Instr.box, newVar, newRow]
  · exact hr.hp.push_box e _ (a.eval x).cells k1 k2 k3
  · exact .ptr H.length 0 _ _ (by rw [getElem?_snoc, if_pos rfl]) rfl rfl (by simp [updκ])
theorem run_loadVar_at {w : World} {t : TypeId} {i : TypeInfo} {ad : Addr} {vs : Nat → Value} (hi : P.info? t = some i) {agg : Bool}
    (ht : ∃ d, P.underlying t = some d ∧ agg = (match d with | .struct _ => true | .array _ _ => true | _ => false)) (h1 : agg = false → i.size = 1) (hc : ∀ j, j < i.size → w.cell? (ad.add j) = some (vs j)) :
    (loadVar t ad).run P w = .ok (if agg then .agg ((List.range i.size).map vs).toArray else vs 0) w := by
  obtain ⟨d, hd, ha⟩ := ht
  have hl := run_loadCells (P := P) w ad i.size vs hc
  cases agg with
  | true => cases d <;> simp at ha <;> simp [loadVar, isAgg, run_underlying hd, sizeOf, typeInfo, hi, hl]
  | false =>
    have := hc 0 (by rw [h1 rfl]; omega)
    rw [Addr.add_zero'] at this
    cases d <;> simp at ha <;> simp [loadVar, isAgg, run_underlying hd, this]
theorem RdV.mk {c : Conc} {H : List O} {agg : Bool} {ys : List D} {n : Nat} {vs : Nat → Value} (hl : ys.length = n) (h1 : agg = false → n = 1) (ho : ∀ z ∈ ys, z.one = true) (hr : ∀ i (h : i < ys.length), RdV c H (ys[i]'h) (vs i)) :
    RdV c H (mkD agg ys) (if agg then .agg ((List.range n).map vs).toArray else vs 0) := by
  cases agg with
  | true =>
    refine .agg ys _ (by simp [hl]) (fun i h => ho _ (List.getElem_mem h)) (fun i h => ?_)
    have : ((List.range n).map vs).toArray.getD i undef = vs i := by
      simp [Array.getD, hl ▸ h]
    rw [this]; exact hr i h
  | false =>
    have := h1 rfl
    subst this
    match ys, hl with
    | [y], _ => exact hr 0 (by simp)
theorem row_cell {c : Conc} {H : List O} {w : World} {id : Nat} {x : Bool} {ver : Nat} {e : TypeId} {s : Nat} {xs : List D} (h : OOk c H w id (.row x ver e s xs)) {g n cap : Nat} (hk : c.κ id = .slice (some ⟨g, 0, none⟩) n cap) (j : Nat) (hj : j < xs.length)
    (i : Nat) (hi : i < (xs[j]'hj).leaves.length) : ∃ v, w.cell? ⟨g, j * s + i, none⟩ = some v ∧ RdV c H ((xs[j]'hj).leaves[i]'hi) v := by
  obtain ⟨h0, h1, cells, hown, h2, h3⟩ := h
  have hs := fun y hy => (h1 y hy).1
  have hfl := flat_length hs
  have hi' : i < s := by rw [← hs _ (List.getElem_mem hj)]; exact hi
  have hlt := idx_lt hj hi'
  have hcl : cells.length = xs.length * s := hown.1
  have hg : blk (c.κ id) = some g := by rw [hk]; rfl
  have hc := own_cell hown hg (j * s + i) (by omega)
  have hf := flat_get hs j hj i hi
  have hk' : j * s + i < (flat xs).length := by rw [hfl]; exact hlt
  rw [List.getElem?_eq_getElem hk'] at hf
  have hr := h2 (j * s + i) hk'
  rw [Option.some.inj hf, List.getD_eq_getElem?_getD, List.getElem?_eq_getElem (by omega)] at hr
  exact ⟨cells[j * s + i], by rw [hc, List.getElem?_eq_getElem (by omega)], hr⟩
theorem sound_load {t : TypeId} {x : Operand} {x' : X} {i : TypeInfo} {agg : Bool} (ho : o.op = .load t x) (hx : Operand.toX x = some x') (hi : P.info? t = some i)
    (ht : ∃ d, P.underlying t = some d ∧ agg = (match d with | .struct _ => true | .array _ _ => true | _ => false)) (h1 : agg = false → i.size = 1) (CA) (h : vcOp CA G (.load i.size agg x') s H K) : OpA P G o s H K := by
  refine .pure fun F n c a w hr => ?_
  have hv := toX_ok hr hx
  simp only [vcOp] at h
  generalize x'.val G s = d at h hv
  split at h
  · rename_i ys
    obtain ⟨hn, hK⟩ := h
    generalize he : a.eval x = v at hv
    cases hv with
    | el _ ad vs h1' hΦ hr' =>
      have hrun := run_loadVar_at (w := w) (vs := vs) hi ht h1 (ad := ad) (fun j hj => hr.hp.good _ _ (hΦ j (by omega)))
      refine ⟨_, _, ?_, RdV.mk (vs := vs) (n := i.size) (by simp; omega) h1 (fun z hz => ?_) (fun k hk => ?_), hK⟩
      · simp [execOp, ho, Instr.loadAt, he, Instr.sureAddr, hrun]
      · obtain ⟨k, hk, rfl⟩ := List.getElem_of_mem (List.mem_of_mem_take hz)
        exact h1' k hk
      · simp only [List.length_take] at hk
        rw [List.getElem_take]; exact hr' k (by omega)
  · rename_i id off
    split at h
    · rename_i e ys hH
      obtain ⟨hn, hK⟩ := h
      generalize he : a.eval x = v at hv
      cases hv with
      | ptr _ _ b ob hob hk hver hκ =>
        obtain ⟨b', cs, o1, o2, o3, o4, o5, o6⟩ := hr.hp.objs id _ hH
        rw [hκ] at o1
        have hbb : b = b' := by injection o1 with q; injection q with q; injection q
        subst hbb
        have hcell : ∀ j, j < i.size → w.cell? ((⟨b, off, none⟩ : Addr).add j) = some (cs.getD (off + j) undef) := by
          intro j hj
          rw [Addr.add_lit]
          have : off + j < cs.size := by omega
          simp [World.cell?, o2, this, Array.getD]
        have hrun := run_loadVar_at (w := w) (vs := fun j => cs.getD (off + j) undef) hi ht h1 hcell
        refine ⟨_, _, ?_, RdV.mk (vs := fun j => cs.getD (off + j) undef) (n := i.size) (by simp; omega) h1 (fun z hz => ?_) (fun k hk => ?_), hK⟩
        · simp only [execOp, ho, Instr.loadAt, he, Instr.sureAddr, Sem.run_bind, Sem.run_pure, Result.andThen_ok, hrun]
        · exact o5 z (List.mem_of_mem_drop (List.mem_of_mem_take hz))
        · simp only [List.length_take, List.length_drop] at hk
          rw [List.getElem_take, List.getElem_drop]; exact o4 (off + k) (by omega)
    · exact h.elim
  · rename_i id ver j k
    split at h
    · rename_i xb v' e sz xs hH
      obtain ⟨rfl, hn, y, hy, hK⟩ := h
      generalize he : a.eval x = v at hv
      cases hv with
      | rel _ _ _ _ sz' ob ad hob hk hver hκ =>
        rw [hH] at hob
        cases hob
        simp only [O.kind, Prod.mk.injEq] at hk
        obtain ⟨_, rfl⟩ := hk
        obtain ⟨g, n', cap, hκ', rfl⟩ := hκ rfl
        have hok := hr.hp.objs id _ hH
        have hj : j < xs.length := (List.getElem?_eq_some_iff.1 hy).1
        have hyy : xs[j] = y := (List.getElem?_eq_some_iff.1 hy).2
        have hly := (hok.2.1 y (by rw [← hyy]; exact List.getElem_mem hj))
        have hc : ∀ m, m < i.size → ∃ v, w.cell? ((⟨g, j * sz + k, none⟩ : Addr).add m) = some v ∧ ∀ (hm : k + m < y.leaves.length), RdV c H (y.leaves[k + m]'hm) v := by
          intro m hm
          have hi' : k + m < (xs[j]'hj).leaves.length := by rw [hyy, hly.1]; omega
          obtain ⟨v, q1, q2⟩ := row_cell hok hκ' j hj (k + m) hi'
          refine ⟨v, by rw [Addr.add_lit, Nat.add_assoc]; exact q1, fun hm' => ?_⟩
          have : (xs[j]'hj).leaves[k + m]'hi' = y.leaves[k + m]'hm' := by simp only [hyy]
          rw [← this]; exact q2
        have hvs : ∃ vs : Nat → Value, ∀ m, m < i.size → w.cell? ((⟨g, j * sz + k, none⟩ : Addr).add m) = some (vs m) ∧ ∀ (hm : k + m < y.leaves.length), RdV c H (y.leaves[k + m]'hm) (vs m) := by
          refine ⟨fun m => if hm : m < i.size then (hc m hm).choose else undef, fun m hm => ?_⟩
          simp only [hm, dif_pos]
          exact (hc m hm).choose_spec
        obtain ⟨vs, hvs⟩ := hvs
        have hrun := run_loadVar_at (w := w) (vs := vs) hi ht h1 (fun m hm => (hvs m hm).1)
        refine ⟨_, _, ?_, RdV.mk (vs := vs) (n := i.size) (by simp; omega) h1 (fun z hz => ?_) (fun m hm => ?_), hK⟩
        · simp only [execOp, ho, Instr.loadAt, he, Instr.sureAddr, Sem.run_bind, Sem.run_pure, Result.andThen_ok, hrun]
        · exact hly.2 z (List.mem_of_mem_drop (List.mem_of_mem_take hz))
        · simp only [List.length_take, List.length_drop] at hm
          rw [List.getElem_take, List.getElem_drop]; exact (hvs m (by omega)).2 (by omega)
    · exact h.elim
  · exact h.elim
theorem sound_nilck {x : Operand} {x' : X} (ho : o.op = .nilCheck x) (hx : Operand.toX x = some x') (CA) (h : vcOp CA G (.nilck x') s H K) : OpA P G o s H K := by
  refine .pure fun F n c a w hr => ?_
  have hv := toX_ok hr hx
  simp only [vcOp] at h
  generalize x'.val G s = d at h hv
  generalize he : a.eval x = v at hv
  have hv0 := hv
  split at h
  all_goals first
    | exact h.elim
    | (cases hv; exact ⟨_, _, by simp only [execOp, ho, he]; rfl, hv0, h⟩)
theorem sound_bin {op : BinOp} {t u : TypeId} {x y : Operand} {x' y' : X} (ho : o.op = .binOp op t x y u) (hx : Operand.toX x = some x') (hy : Operand.toX y = some y') (CA) (h : vcOp CA G (.bin op x' y') s H K) : OpA P G o s H K := by
  refine .pure fun F n c a w hr => ?_
  have hv := toX_ok hr hx
  have hv' := toX_ok hr hy
  simp only [vcOp] at h
  generalize x'.val G s = d at h hv
  generalize y'.val G s = d' at h hv'
  split at h
  · rename_i p q
    split at h
    · rename_i r hb
      generalize he : a.eval x = v at hv
      generalize he' : a.eval y = v' at hv'
      cases hv
      cases hv'
      have hrun := run_binL (P := P) (t := t) (x := x) (y := y) hb w
      refine ⟨r, .lit r, ?_, .lit r, h⟩
      simp only [execOp, ho, he, he', Sem.run_bind, hrun, Result.andThen_ok, Sem.run_pure]
    · exact h.elim
  · exact h.elim
theorem equal_bool {w : World} {t : TypeId} (ht : P.underlying t = some .bool) (p q : Bool) : (Op.equal t (.bool p) (.bool q)).run P w = .ok (p == q) w := by
  have : ∀ d, (Op.equalIn (d + 1) t (.bool p) (.bool q)).run P w = .ok (p == q) w := fun d => by simp only [Op.equalIn, Sem.run_bind, run_underlying ht, Result.andThen_ok]; rfl
  exact this 9999
theorem equal_nil {w : World} {t : TypeId} {ms : Array (String × TypeId)} (ht : P.underlying t = some (.interface ms)) : (Op.equal t .nilIface .nilIface).run P w = .ok true w := by
  have : ∀ d, (Op.equalIn (d + 1) t .nilIface .nilIface).run P w = .ok true w := fun d => by simp only [Op.equalIn, Sem.run_bind, run_underlying ht, Result.andThen_ok]; rfl
  exact this 9999
theorem equal_nil_l {w : World} {t T : TypeId} {z : Value} {ms : Array (String × TypeId)} (ht : P.underlying t = some (.interface ms)) : (Op.equal t .nilIface (.iface T z)).run P w = .ok false w := by
  have : ∀ d, (Op.equalIn (d + 1) t .nilIface (.iface T z)).run P w = .ok false w := fun d => by simp only [Op.equalIn, Sem.run_bind, run_underlying ht, Result.andThen_ok]; rfl
  exact this 9999
theorem equal_nil_r {w : World} {t T : TypeId} {z : Value} {ms : Array (String × TypeId)} (ht : P.underlying t = some (.interface ms)) : (Op.equal t (.iface T z) .nilIface).run P w = .ok false w := by
  have : ∀ d, (Op.equalIn (d + 1) t (.iface T z) .nilIface).run P w = .ok false w := fun d => by simp only [Op.equalIn, Sem.run_bind, run_underlying ht, Result.andThen_ok]; rfl
  exact this 9999
theorem sound_eqb {op : BinOp} {t u : TypeId} {x y : Operand} {x' y' : X} (ho : o.op = .binOp op t x y u) (hx : Operand.toX x = some x') (hy : Operand.toX y = some y') (ht : P.underlying t = some .bool) (CA) (h : vcOp CA G (.eqb op x' y') s H K) : OpA P G o s H K := by
  refine .pure fun F n c a w hr => ?_
  have hv := toX_ok hr hx
  have hv' := toX_ok hr hy
  simp only [vcOp] at h
  generalize x'.val G s = d at h hv
  generalize y'.val G s = d' at h hv'
  generalize he : a.eval x = v at hv
  generalize he' : a.eval y = v' at hv'
  unfold boolD at h
  split at h
  · rename_i r hb
    split at hb
    · rename_i p q
      cases hv
      cases hv'
      have hg : eqGuard op t x y (.bool p) (.bool q) = pure () := eqGuard_at_bool op t x y (.bool q) p
      unfold eqB at hb
      have he1 : (Op.equal t (.bool p) (.bool q)).run P w = .ok (p == q) w := equal_bool ht p q
      split at hb
      · simp only [Option.some.injEq] at hb; subst hb
        exact ⟨.bool (p == q), _, by simp [execOp, ho, he, he', hg, binOp, he1], .lit _, h⟩
      · simp only [Option.some.injEq] at hb; subst hb
        exact ⟨.bool (!(p == q)), _, by simp [execOp, ho, he, he', hg, binOp, he1], .lit _, h⟩
      · cases hb
    · cases hb
  · exact h.elim
theorem sound_eqn {op : BinOp} {t u : TypeId} {x y : Operand} {x' y' : X} {ms : Array (String × TypeId)} (ho : o.op = .binOp op t x y u) (hx : Operand.toX x = some x') (hy : Operand.toX y = some y') (ht : P.underlying t = some (.interface ms))
    (hc : (∃ c, x = .const c) ∨ ∃ c, y = .const c) (CA) (h : vcOp CA G (.eqn op x' y') s H K) : OpA P G o s H K := by
  refine .pure fun F n c a w hr => ?_
  have hv := toX_ok hr hx
  have hv' := toX_ok hr hy
  simp only [vcOp] at h
  generalize x'.val G s = d at h hv
  generalize y'.val G s = d' at h hv'
  generalize he : a.eval x = v at hv
  generalize he' : a.eval y = v' at hv'
  have fin : ∀ b : Bool, (eqGuard op t x y v v').run P w = .ok () w → (Op.equal t v v').run P w = .ok b w → (∀ p q, v ≠ .int p q) → (∀ p, v ≠ .string p) → (∀ p q, v ≠ .float p q) → (∀ p q r, v ≠ .complex p q r) → (∀ p, v ≠ .pointer p) → ∀ r, eqB op b = some r → K r H →
      ∃ v d, (execOp a.eval o).run P w = .ok (.value v) w ∧ RdV c H d v ∧ K d H := by
    intro b hg heq g1 g2 g3 g4 g5 r hb hK
    unfold eqB at hb
    split at hb
    · simp only [Option.some.injEq] at hb; subst hb
      refine ⟨.bool b, _, ?_, .lit _, hK⟩
      have : binOp .eql t v v' = (do pure (.bool (← Op.equal t v v'))) := by
        cases v <;> first | rfl | exact absurd rfl (g1 _ _) | exact absurd rfl (g2 _) | exact absurd rfl (g3 _ _) | exact absurd rfl (g4 _ _ _) | exact absurd rfl (g5 _)
      simp [execOp, ho, he, he', hg, this, heq]
    · simp only [Option.some.injEq] at hb; subst hb
      refine ⟨.bool (!b), _, ?_, .lit _, hK⟩
      have : binOp .neq t v v' = (do pure (.bool (!(← Op.equal t v v')))) := by
        cases v <;> first | rfl | exact absurd rfl (g1 _ _) | exact absurd rfl (g2 _) | exact absurd rfl (g3 _ _) | exact absurd rfl (g4 _ _ _) | exact absurd rfl (g5 _)
      simp [execOp, ho, he, he', hg, this, heq]
    · cases hb
  unfold nilD at h
  split at h
  · rename_i r hb
    split at hb
    · cases hv
      cases hv'
      refine fin true ?_ (equal_nil ht) (by simp) (by simp) (by simp) (by simp) (by simp) r hb h
      rcases hc with ⟨k, rfl⟩ | ⟨k, rfl⟩
      · rw [eqGuard_nil_constL]; rfl
      · rw [eqGuard_nil_constR]; rfl
    · cases hv'
      cases hv with
      | nn T z => exact fin false (by rw [eqGuard_at_iface]; rfl) (equal_nil_r ht) (by simp) (by simp) (by simp) (by simp) (by simp) r hb h
    · cases hv
      cases hv' with
      | nn T z => exact fin false (by rw [eqGuard_nil_iface]; rfl) (equal_nil_l ht) (by simp) (by simp) (by simp) (by simp) (by simp) r hb h
    · cases hv
      cases hv'
      exact fin false (by rw [eqGuard_at_iface]; rfl) (equal_nil_r ht) (by simp) (by simp) (by simp) (by simp) (by simp) r hb h
    · cases hb
  · exact h.elim
theorem sound_un {op : UnOp} {t : TypeId} {x : Operand} {x' : X} (ho : o.op = .unOp op t x) (hx : Operand.toX x = some x') (CA) (h : vcOp CA G (.un op x') s H K) : OpA P G o s H K := by
  refine .pure fun F n c a w hr => ?_
  have hv := toX_ok hr hx
  simp only [vcOp] at h
  generalize x'.val G s = d at h hv
  generalize he : a.eval x = v at hv
  unfold unD at h
  split at h
  · rename_i r hb
    split at hb
    · cases hv
      cases op <;> simp only [Option.some.injEq] at hb <;> first | (cases hb; done) | (subst hb; exact ⟨_, _, by simp [execOp, ho, he, Op.unary, Op.intArith], .lit _, h⟩)
    · cases hv
      cases op <;> simp only [Option.some.injEq] at hb <;> first | (cases hb; done) | (subst hb; exact ⟨_, _, by simp [execOp, ho, he, Op.unary], .lit _, h⟩)
    · cases hb
  · exact h.elim
theorem sound_conv {src dst : TypeId} {x : Operand} {x' : X} {k : IntKind} {ds : TypeDesc} (ho : o.op = .convert src dst x) (hx : Operand.toX x = some x') (hs : P.underlying src = some ds) (hd : P.underlying dst = some (.int k)) (CA) (h : vcOp CA G (.conv k x') s H K) : OpA P G o s H K := by
  refine .pure fun F n c a w hr => ?_
  have hv := toX_ok hr hx
  simp only [vcOp] at h
  generalize x'.val G s = d at h hv
  generalize he : a.eval x = v at hv
  split at h
  · rename_i k0 m
    cases hv
    refine ⟨_, _, ?_, .lit _, h⟩
    simp [execOp, ho, he, convert, run_underlying hs, run_underlying hd, Conv.intToInt]
  · exact h.elim
theorem sound_ext {x : Operand} {x' : X} {i : Nat} (ho : o.op = .extract x i) (hx : Operand.toX x = some x') (CA) (h : vcOp CA G (.ext x' i) s H K) : OpA P G o s H K := by
  refine .pure fun F n c a w hr => ?_
  have hv := toX_ok hr hx
  simp only [vcOp] at h
  generalize x'.val G s = d at h hv
  generalize he : a.eval x = v at hv
  split at h
  · rename_i ds
    obtain ⟨d, hd, hK⟩ := h
    obtain ⟨hi, rfl⟩ := List.getElem?_eq_some_iff.1 hd
    cases hv with
    | tup _ vs hn hr' =>
      have hi' : i < vs.size := by omega
      have := hr' i hi
      rw [Array.getD_eq_getD_getElem?, Array.getElem?_eq_getElem hi', Option.getD_some] at this
      refine ⟨_, _, ?_, this, hK⟩
      simp [execOp, ho, he, Instr.extract, Array.getElem?_eq_getElem hi']
  · exact h.elim
theorem sound_mkfn {f : FuncId} {caps : Array Operand} {xs : List X} (ho : o.op = .makeFunc (.func f) #[] caps) (hx : caps.toList.map Operand.toX = xs.map some) (CA) (h : vcOp CA G (.mkfn f xs) s H K) : OpA P G o s H K := by
  refine .pure fun F n c a w hr => ?_
  have hl : caps.size = xs.length := by have := congrArg List.length hx; simpa using this
  refine ⟨.func (.func f) #[] (caps.map a.eval), _, by simp [execOp, ho, Instr.makeFunc], .fn f _ _ (by simp [hl]) (fun i hi => ?_), h⟩
  simp only [List.length_map] at hi
  have h1 := congrArg (fun l => l[i]?) hx
  simp only [List.getElem?_map, Array.getElem?_toList, Array.getElem?_eq_getElem (hl ▸ hi), List.getElem?_eq_getElem hi, Option.map_some, Option.some.injEq] at h1
  have h2 := toX_ok hr h1
  have : (caps.map a.eval).getD i undef = a.eval (caps[i]'(hl ▸ hi)) := by simp [Array.getD, hl ▸ hi]
  rw [this, List.getElem_map]
  exact h2
theorem sound_idxS {t : TypeId} {x y : Operand} {x' y' : X} (ho : o.op = .index t x y) (hx : Operand.toX x = some x') (hy : Operand.toX y = some y') (ht : P.underlying t = some .string) (CA) (h : vcOp CA G (.idxS x' y') s H K) : OpA P G o s H K := by
  refine .pure fun F n c a w hr => ?_
  have hv := toX_ok hr hx
  have hv' := toX_ok hr hy
  simp only [vcOp] at h
  generalize x'.val G s = d at h hv
  generalize y'.val G s = d' at h hv'
  generalize he : a.eval x = v at hv
  generalize he' : a.eval y = v' at hv'
  split at h
  · rename_i b k m
    obtain ⟨h0, u, hu, hK⟩ := h
    cases hv
    cases hv'
    refine ⟨_, _, ?_, .lit _, hK⟩
    simp [execOp, ho, he, he', Instr.index, asIntOf, run_underlying ht, h0, hu]
  · exact h.elim
theorem sound_fad {t : TypeId} {x : Operand} {x' : X} {j : Nat} {fs : Array Field} {f : Field} {i : TypeInfo} (ho : o.op = .fieldAddr t x j) (hx : Operand.toX x = some x') (ht : P.underlying t = some (.struct fs)) (hf : fs[j]? = some f) (hi : P.info? f.type = some i) (h0 : i.size ≠ 0) (CA)
    (h : vcOp CA G (.fad f.offset x') s H K) : OpA P G o s H K := by
  refine .pure fun F n c a w hr => ?_
  have hv := toX_ok hr hx
  simp only [vcOp] at h
  generalize x'.val G s = d at h hv
  generalize he : a.eval x = v at hv
  have hrun : ∀ ad, v = .pointer (some ad) → (execOp a.eval o).run P w = .ok (.value (.pointer (some (ad.add f.offset)))) w := by
    intro ad hv
    subst hv
    simp [execOp, ho, he, Instr.fieldAt, run_underlying ht, hf, Instr.sureAddr, fieldPlace, sizeOf, typeInfo, hi, h0]
  split at h
  · rename_i id off
    cases hv with
    | ptr _ _ b ob hob hk hver hκ =>
      refine ⟨_, _, hrun _ rfl, ?_, h⟩
      rw [Addr.add_lit]
      exact .ptr id (off + f.offset) b ob hob hk hver hκ
  · rename_i ys
    cases hv with
    | el _ ad vs h1 hΦ hr' =>
      refine ⟨_, _, hrun _ rfl, ?_, h⟩
      refine .el _ _ (fun i => vs (f.offset + i)) (fun i hi => ?_) (fun i hi => ?_) (fun i hi => ?_)
      · rw [List.getElem_drop]; exact h1 _ _
      · simp only [List.length_drop] at hi
        have := hΦ (f.offset + i) (by omega)
        rw [← this]
        congr 1
        unfold Addr.add
        split <;> split <;> (try split) <;> simp_all <;> omega
      · rw [List.getElem_drop]; exact hr' _ _
  · rename_i id ver j k
    cases hv with
    | rel _ _ _ _ sz ob ad hob hk hver hκ =>
      refine ⟨_, _, hrun _ rfl, ?_, h⟩
      refine .rel id ver j (k + f.offset) sz ob _ hob hk hver fun q => ?_
      obtain ⟨g, n', cap, q1, q2⟩ := hκ q
      refine ⟨g, n', cap, q1, ?_⟩
      rw [q2, Addr.add_lit, Nat.add_assoc]
  · exact h.elim
end
end Go.DL
set_option linter.unusedVariables false
set_option linter.unusedSimpArgs false
namespace Go.DL
open Go
section
variable {P : Program} {G : Nat → D} {o : Oper} {s : Nat → D} {H : List O} {K : D → List O → Prop}
theorem getElem?_splice {α : Type} {l news : List α} {off i : Nat} (h : off + news.length ≤ l.length) : (l.take off ++ news ++ l.drop (off + news.length))[i]? = if off ≤ i ∧ i < off + news.length then news[i - off]? else l[i]? := by
  have ht : (l.take off).length = off := by rw [List.length_take]; omega
  by_cases h1 : i < off
  · rw [if_neg (by omega), List.append_assoc, List.getElem?_append_left (by omega), List.getElem?_take_of_lt h1]
  · by_cases h2 : i < off + news.length
    · rw [if_pos ⟨by omega, h2⟩, List.append_assoc, List.getElem?_append_right (by omega), List.getElem?_append_left (by omega), ht]
    · rw [if_neg (by omega), List.getElem?_append_right (by rw [List.length_append]; omega), List.getElem?_drop, List.length_append, ht, show off + news.length + (i - (off + news.length)) = i by omega]
theorem getD_splice {l news : List Value} {off i : Nat} (h : off + news.length ≤ l.length) : (l.take off ++ news ++ l.drop (off + news.length)).getD i undef = if off ≤ i ∧ i < off + news.length then news.getD (i - off) undef else l.getD i undef := by
  simp only [List.getD_eq_getElem?_getD, getElem?_splice h]
  split <;> rfl
theorem getElem_spliceD {l news : List D} {off i : Nat} (h : off + news.length ≤ l.length) (hi : i < (l.take off ++ news ++ l.drop (off + news.length)).length) :
    (l.take off ++ news ++ l.drop (off + news.length))[i]'hi = if h' : off ≤ i ∧ i < off + news.length then news[i - off]'(by omega) else l[i]'(by simp at hi; omega) := by
  have h1 := getElem?_splice (i := i) h
  rw [List.getElem?_eq_getElem hi] at h1
  have hil : i < l.length := by simp at hi; omega
  split at h1
  · rename_i hc
    rw [dif_pos hc]
    rw [List.getElem?_eq_getElem (by omega)] at h1
    exact Option.some.inj h1
  · rename_i hc
    rw [dif_neg hc]
    rw [List.getElem?_eq_getElem hil] at h1
    exact Option.some.inj h1
theorem newElem_leaves {z : D} {ys : List D} (hl : ys.length = z.leaves.length) (h1 : ∀ q ∈ ys, q.one = true) : (newElem z ys).leaves = ys := by
  have key : ys.length = 1 → (ys.headD .junk).leaves = ys := by
    intro h
    match ys, h, h1 with
    | [q], _, h1 =>
      have hq := h1 q (by simp)
      cases q <;> simp_all [D.one, D.leaves]
  cases z <;> first | rfl | exact key hl
theorem take_splice {l news : List Value} {off N : Nat} (h : off + news.length ≤ N) (hN : N ≤ l.length) : (l.take off ++ news ++ l.drop (off + news.length)).take N = (l.take N).take off ++ news ++ (l.take N).drop (off + news.length) := by
  have ht : (l.take off).length = off := by rw [List.length_take]; omega
  rw [List.take_append, List.take_of_length_le (by rw [List.length_append]; omega), List.length_append, ht, List.take_take, Nat.min_eq_left (by omega), List.drop_take]
theorem Ext.set {c : Conc} {H : List O} {id : Nat} {o o' : O} (ho : H[id]? = some o) (hk : o'.kind = o.kind) (hv : o'.ver = o.ver) : Ext c H c (H.set id o') := by
  refine ⟨fun _ _ q => q, fun i p hi => ?_⟩
  by_cases hii : i = id
  · subst hii
    rw [ho] at hi; cases hi
    exact ⟨o', List.getElem?_set_self (List.getElem?_eq_some_iff.1 ho).1, hk, by omega, fun _ => rfl⟩
  · exact ⟨p, by rw [List.getElem?_set_ne (by omega)]; exact hi, rfl, Nat.le_refl _, fun _ => rfl⟩
theorem run_storeVar {w : World} {t : TypeId} {i : TypeInfo} {g off : Nat} {e : TypeId} {cur : Array Value} {v : Value} (hi : P.info? t = some i) (hg : w.heap[g]? = some (.cells cur e (0, 0))) (hs : v.cells.size = i.size) (hl : off + v.cells.size ≤ cur.size)
    (h1 : ∀ u ∈ v.cells.toList, u.oneCell' = true) : (storeVar t ⟨g, off, none⟩ v).run P w = .ok () (w.setRow g (cur.toList.take off ++ v.cells.toList ++ cur.toList.drop (off + v.cells.toList.length)).toArray) := by
  have := run_storeCells_at P g off e v.cells.toList 0 cur w hg (by simpa using hl) h1
  simp only [Nat.add_zero] at this
  simp [storeVar, sizeOf, typeInfo, hi, hs, this]
theorem grownBy_setRow (w : World) (g : Nat) (cs : Array Value) : w.grownBy (w.setRow g cs) (some g) :=
  ⟨rfl, rfl, rfl, by simp [World.setRow], fun k _ hk => setRow_other w g k cs (fun e => hk (by rw [e]))⟩
theorem sound_store {t : TypeId} {x y : Operand} {x' y' : X} {i : TypeInfo} (ho : o.op = .store t x y) (hx : Operand.toX x = some x') (hy : Operand.toX y = some y') (hi : P.info? t = some i) (CA) (h : vcOp CA G (.store i.size x' y') s H K) : OpA P G o s H K := by
  intro F n c a w hr
  have hv := toX_ok hr hx
  have hv' := toX_ok hr hy
  obtain ⟨hw, hl, h⟩ := h
  obtain ⟨k1, k2, k3, k4⟩ := hv'.cells hw
  simp only at k1 k3
  generalize (y'.val G s).leaves = ls at h hl k1 k2 k3
  generalize x'.val G s = d at h hv
  generalize he : a.eval x = v at hv
  generalize he' : a.eval y = v' at k1 k3 k4
  refine .inr (.inl ?_)
  split at h
  · rename_i id off
    split at h
    · rename_i e ys hH
      obtain ⟨hn, hK⟩ := h
      rw [← hl] at hn hK
      cases hv with
      | ptr _ _ b ob hob hk hver hκ =>
        have hid : id < H.length := (List.getElem?_eq_some_iff.1 hH).1
        obtain ⟨b', cs, o1, o2, o3, o4, o5, o6⟩ := hr.hp.objs id _ hH
        rw [hκ] at o1
        have hbb : b = b' := by injection o1 with q; injection q with q; injection q
        subst hbb
        have hrun := run_storeVar (P := P) hi o2 (v := v') (off := off) (by omega) (by omega) k4
        have hE : Ext c H c (H.set id (.box e (ys.take off ++ ls ++ ys.drop (off + ls.length)))) := Ext.set hH rfl rfl
        refine ⟨w.setRow b (cs.toList.take off ++ v'.cells.toList ++ cs.toList.drop (off + v'.cells.toList.length)).toArray, c, _, ?_, ?_, hE, hK⟩
        · simp only [execOp, ho, Instr.storeAt, he, he', Instr.sureAddr, Sem.run_bind, Sem.run_pure, Result.andThen_ok, hrun]
        · have hb : blk (c.κ id) = some b := by rw [hκ]; rfl
          refine hr.hp.step (some b) id (grownBy_setRow _ _ _) (fun b' hb' => ⟨hid, by rw [← hb']; exact hb⟩) hE (fun _ _ _ => rfl) (fun j hj => List.getElem?_set_ne (by omega)) (fun a u ha => .inl ha)
            (fun a u ha hrow => absurd (Option.some.inj hrow).symm (o6 a u ha)) ?_ (fun b' _ hb' => .inl ⟨hid, hb'⟩) ?_
          · intro p hp
            rw [List.getElem?_set_self hid] at hp
            cases hp
            refine ⟨b, _, hκ, setRow_heap w b cs _ e _ o2, ?_, ?_, ?_, o6⟩
            · simp; omega
            · intro j hj
              have hsz : v'.cells.toList.length = ls.length := by simpa using k1
              have e1 := getElem_spliceD (l := ys) (news := ls) (off := off) (by omega) hj
              have e2 := getD_splice (l := cs.toList) (news := v'.cells.toList) (off := off) (i := j) (by simp; omega)
              have e3 : (cs.toList.take off ++ v'.cells.toList ++ cs.toList.drop (off + v'.cells.toList.length)).toArray.getD j undef = (cs.toList.take off ++ v'.cells.toList ++ cs.toList.drop (off + v'.cells.toList.length)).getD j undef := by
                simp [Array.getD_eq_getD_getElem?, List.getD_eq_getElem?_getD]
              rw [e1, e3, e2, hsz]
              split
              · rename_i hc
                have := (k3 (j - off) (by omega)).ext hE
                simpa [Array.getD_eq_getD_getElem?, List.getD_eq_getElem?_getD] using this
              · have := (o4 j (by simp at hj; omega)).ext hE
                simpa [Array.getD_eq_getD_getElem?, List.getD_eq_getElem?_getD] using this
            · intro z hz
              rcases List.mem_append.1 hz with q | q
              · rcases List.mem_append.1 q with q | q
                · exact o5 z (List.mem_of_mem_take q)
                · exact k2 z q
              · exact o5 z (List.mem_of_mem_drop q)
          · intro ver es hm; rw [hH] at hm; cases hm
    · exact h.elim
  · rename_i id ver j k
    split at h
    · rename_i ver' e sz xs hH
      obtain ⟨rfl, hn, z, hz, hK⟩ := h
      cases hv with
      | rel _ _ _ _ sz' ob ad hob hk hver hκ =>
        rw [hH] at hob
        cases hob
        simp only [O.kind, Prod.mk.injEq] at hk
        obtain ⟨_, rfl⟩ := hk
        obtain ⟨g, n', cap, hκ', rfl⟩ := hκ rfl
        have hid : id < H.length := (List.getElem?_eq_some_iff.1 hH).1
        have hok := hr.hp.objs id _ hH
        obtain ⟨h0, h1, cells, hown, h2, h3⟩ := hok
        have hj : j < xs.length := (List.getElem?_eq_some_iff.1 hz).1
        have hzz : xs[j] = z := (List.getElem?_eq_some_iff.1 hz).2
        have hlz := h1 z (by rw [← hzz]; exact List.getElem_mem hj)
        have hb : blk (c.κ id) = some g := by rw [hκ']; rfl
        have hs1 := fun y hy => (h1 y hy).1
        have hfl := flat_length hs1
        have hcl : cells.length = xs.length * sz := hown.1
        have hlt : j * sz + k + i.size ≤ xs.length * sz := by
          have : (j + 1) * sz ≤ xs.length * sz := Nat.mul_le_mul_right _ hj
          rw [Nat.add_mul] at this; omega

        have hne : (newElem z (z.leaves.take k ++ ls ++ z.leaves.drop (k + i.size))).leaves = z.leaves.take k ++ ls ++ z.leaves.drop (k + i.size) := by
          refine newElem_leaves (by simp; omega) ?_
          intro q hq
          rcases List.mem_append.1 hq with q' | q'
          · rcases List.mem_append.1 q' with q' | q'
            · exact hlz.2 q (List.mem_of_mem_take q')
            · exact k2 q q'
          · exact hlz.2 q (List.mem_of_mem_drop q')
        generalize hN : newElem z (z.leaves.take k ++ ls ++ z.leaves.drop (k + i.size)) = N at hK hne
        have hown' := hown
        rcases hown.2 with ⟨hn0, _⟩ | ⟨g', cap', cur, hv0, _, hh, hle, hmax, hsz, htake⟩
        · rw [hκ'] at hn0; cases hn0
        · rw [hκ'] at hv0
          injection hv0 with q1 q2 q3
          injection q1 with q1; injection q1 with q1
          subst q1
          have hcur : xs.length * sz ≤ cur.size := by rw [hsz]; exact Nat.mul_le_mul_right _ hle
          have hrun := run_storeVar (P := P) hi hh (v := v') (off := j * sz + k) (by omega) (by omega) k4
          have hE : Ext c H c (H.set id (.row true ver' e sz (xs.set j N))) := Ext.set hH rfl rfl
          refine ⟨w.setRow g (cur.toList.take (j * sz + k) ++ v'.cells.toList ++ cur.toList.drop (j * sz + k + v'.cells.toList.length)).toArray, c, _, ?_, ?_, hE, hK⟩
          · simp only [execOp, ho, Instr.storeAt, he, he', Instr.sureAddr, Sem.run_bind, Sem.run_pure, Result.andThen_ok, hrun]
          · have hΦ := (h3 g hb).1
            refine hr.hp.step (some g) id (grownBy_setRow _ _ _) (fun b' hb' => ⟨hid, by rw [← hb']; exact hb⟩) hE (fun _ _ _ => rfl) (fun m hm => List.getElem?_set_ne (by omega)) (fun a u ha => .inl ha)
              (fun a u ha hrow => absurd (hΦ a u ha (Option.some.inj hrow).symm).1 (by simp)) ?_ (fun b' _ hb' => .inl ⟨hid, hb'⟩) ?_
            · intro p hp
              rw [List.getElem?_set_self hid] at hp
              cases hp
              have hs2 : ∀ y ∈ xs.set j N, y.leaves.length = sz ∧ ∀ q ∈ y.leaves, q.one = true := by
                intro y hy
                rcases List.mem_or_eq_of_mem_set hy with q | q
                · exact h1 y q
                · subst q
                  refine ⟨by rw [hne]; simp; omega, fun q hq => ?_⟩
                  rw [hne] at hq
                  rcases List.mem_append.1 hq with q' | q'
                  · rcases List.mem_append.1 q' with q' | q'
                    · exact hlz.2 q (List.mem_of_mem_take q')
                    · exact k2 q q'
                  · exact hlz.2 q (List.mem_of_mem_drop q')
              have hfl2 := flat_length fun y hy => (hs2 y hy).1
              have hsz' : v'.cells.toList.length = ls.length := by simpa using k1
              refine ⟨h0, hs2, (cells.take (j * sz + k) ++ v'.cells.toList ++ cells.drop (j * sz + k + v'.cells.toList.length)), ?_, ?_, ?_⟩
              · refine ⟨by simp; omega, .inr ⟨g, cap, _, by rw [hκ', q2]; simp, Nat.zero_le _, setRow_heap w g cur _ e _ hh, ?_, by rw [q3]; exact hmax, ?_, ?_⟩⟩
                · rw [List.length_set, q3]; exact hle
                · rw [q3]; simp; omega
                · rw [List.length_set, ← htake]
                  exact take_splice (by omega) (by simpa using hcur)
              · intro m hm
                obtain ⟨hj', hi', he'⟩ := flat_at h0 (fun y hy => (hs2 y hy).1) m hm
                have hm2 : m < xs.length * sz := by rw [hfl2, List.length_set] at hm; exact hm
                rw [he', getD_splice (by omega)]
                have hdiv : m / sz * sz + m % sz = m := by rw [Nat.mul_comm]; exact Nat.div_add_mod m sz
                have hmod : m % sz < sz := Nat.mod_lt _ h0
                by_cases hmj : m / sz = j
                · have hset : (xs.set j N)[m / sz]'hj' = N := by simp [hmj]
                  have hset2 : ∀ (hh : m % sz < N.leaves.length), ((xs.set j N)[m / sz]'hj').leaves[m % sz]'hi' = N.leaves[m % sz]'hh := fun hh => by simp only [hset]
                  have hNl : N.leaves.length = sz := by rw [hne]; simp; omega
                  rw [hset2 (by omega)]
                  have hlen2 : m % sz < (z.leaves.take k ++ ls ++ z.leaves.drop (k + ls.length)).length := by simp; omega
                  have hN2 : N.leaves[m % sz]'(by omega) = (z.leaves.take k ++ ls ++ z.leaves.drop (k + ls.length))[m % sz]'hlen2 := by
                    simp only [hne, hl]
                  rw [hN2, getElem_spliceD (by omega)]
                  subst hmj
                  split
                  · rename_i hc
                    rw [if_pos ⟨by omega, by omega⟩]
                    have := (k3 (m % sz - k) (by omega)).ext hE
                    rw [show m - (m / sz * sz + k) = m % sz - k by omega]
                    simpa [Array.getD_eq_getD_getElem?, List.getD_eq_getElem?_getD] using this
                  · rename_i hc
                    rw [if_neg (by omega)]
                    have hold := (h2 m (by rw [hfl]; exact hm2)).ext hE
                    obtain ⟨p1, p2, p3⟩ := flat_at h0 hs1 m (by rw [hfl]; exact hm2)
                    rw [p3] at hold
                    simp only [hzz] at hold
                    exact hold
                · have hset : (xs.set j N)[m / sz]'hj' = xs[m / sz]'(by simpa using hj') := by rw [List.getElem_set_ne (by omega)]
                  have hold := (h2 m (by rw [hfl]; exact hm2)).ext hE
                  obtain ⟨p1, p2, p3⟩ := flat_at h0 hs1 m (by rw [hfl]; exact hm2)
                  rw [p3] at hold
                  have hset2 : ((xs.set j N)[m / sz]'hj').leaves[m % sz]'hi' = (xs[m / sz]'p1).leaves[m % sz]'p2 := by simp only [hset]
                  rw [hset2, if_neg ?_]
                  · exact hold
                  · intro hc
                    apply hmj
                    have e1 : m < (j + 1) * sz := by rw [Nat.add_mul]; omega
                    have e2 : j * sz ≤ m := by omega
                    exact Nat.div_eq_of_lt_le e2 e1
              · intro g2 hg2
                rw [hb] at hg2
                cases hg2
                exact ⟨fun a u ha hab => absurd (hΦ a u ha hab).1 (by simp), fun hx => by cases hx⟩
            · intro ver' es hm; rw [hH] at hm; cases hm
    · exact h.elim
  · exact h.elim
end
end Go.DL
set_option linter.unusedVariables false
set_option linter.unusedSimpArgs false
namespace Go.DL
open Go
section
variable {P : Program} {G : Nat → D} {o : Oper} {s : Nat → D} {H : List O} {K : D → List O → Prop}
theorem RdV.part {c : Conc} {ys : List D} {cs : Array Value} {off n : Nat} {agg : Bool} (h : RdV c H (.agg ys) (.agg cs)) (hn : off + n ≤ ys.length) (h1 : agg = false → n = 1) :
    RdV c H (mkD agg ((ys.drop off).take n)) (if agg then .agg (cs.extract off (off + n)) else cs.getD off undef) := by
  cases h with
  | agg _ _ hs ho hr =>
    cases agg with
    | true =>
      refine .agg _ _ (by simp; omega) (fun i hi => ?_) (fun i hi => ?_)
      · rw [List.getElem_take, List.getElem_drop]; exact ho _ _
      · simp only [List.length_take, List.length_drop] at hi
        rw [List.getElem_take, List.getElem_drop]
        have : (cs.extract off (off + n)).getD i undef = cs.getD (off + i) undef := by
          have : off + i < cs.size := by omega
          simp only [Array.getD_eq_getD_getElem?]
          rw [Array.getElem?_extract_of_lt (by omega), Array.getElem?_eq_getElem this]
        rw [this]; exact hr _ _
    | false =>
      have := h1 rfl
      subst this
      have hd : (ys.drop off).take 1 = [ys[off]'(by omega)] := by
        rw [List.drop_eq_getElem_cons (by omega)]; rfl
      rw [hd]
      exact hr off (by omega)
theorem sound_fld {t : TypeId} {x : Operand} {x' : X} {j : Nat} {fs : Array Field} {f : Field} {i : TypeInfo} {agg : Bool} (ho : o.op = .field t x j) (hx : Operand.toX x = some x') (ht : P.underlying t = some (.struct fs)) (hf : fs[j]? = some f) (hi : P.info? f.type = some i)
    (hd : ∃ d, P.underlying f.type = some d ∧ agg = (match d with | .struct _ => true | .array _ _ => true | _ => false)) (h1 : agg = false → i.size = 1) (CA) (h : vcOp CA G (.fld f.offset i.size agg x') s H K) : OpA P G o s H K := by
  refine .pure fun F n c a w hr => ?_
  have hv := toX_ok hr hx
  simp only [vcOp] at h
  generalize x'.val G s = d at h hv
  generalize he : a.eval x = v at hv
  split at h
  · rename_i ys
    obtain ⟨hn, hK⟩ := h
    have hv0 := hv
    cases hv with
    | agg _ cs hs ho' hr' =>
      refine ⟨_, _, ?_, hv0.part hn h1, hK⟩
      obtain ⟨d, hd, ha⟩ := hd
      have hlt : agg = false → f.offset < cs.size := fun q => by have := h1 q; omega
      cases agg with
      | true => cases d <;> simp at ha <;> simp [execOp, ho, he, Instr.field, run_underlying ht, hf, asAgg, part, isAgg, run_underlying hd, sizeOf, typeInfo, hi]
      | false => cases d <;> simp at ha <;> simp [execOp, ho, he, Instr.field, run_underlying ht, hf, asAgg, part, isAgg, run_underlying hd, hlt rfl, Array.getD]
  · exact h.elim
theorem add_add (ad : Addr) (m k : Nat) : (ad.add m).add k = ad.add (m + k) := by
  unfold Addr.add
  by_cases h1 : m = 0
  · subst h1; simp
  · by_cases h2 : k = 0
    · subst h2; simp [h1]
    · rw [if_neg h1, if_neg h2, if_neg (by omega)]
      simp [Nat.add_assoc]
theorem sound_iad {t e : TypeId} {x y : Operand} {x' y' : X} {i : TypeInfo} (ho : o.op = .indexAddr t x y) (hx : Operand.toX x = some x') (hy : Operand.toX y = some y') (ht : P.underlying t = some (.slice e)) (hi : P.info? e = some i) (CA) (h : vcOp CA G (.iad i.size x' y') s H K) : OpA P G o s H K := by
  refine .pure fun F n c a w hr => ?_
  have hv := toX_ok hr hx
  have hv' := toX_ok hr hy
  simp only [vcOp] at h
  generalize x'.val G s = d at h hv
  generalize y'.val G s = d' at h hv'
  generalize he : a.eval x = v at hv
  generalize he' : a.eval y = v' at hv'
  split at h
  · rename_i xs k m
    obtain ⟨h0, y, hy', hl, hK⟩ := h
    cases hv'
    cases hv with
    | sl _ ao ad cap sz vs hcap ha hs h1 hΦ hr' =>
      have hm : m.toNat < xs.length := (List.getElem?_eq_some_iff.1 hy').1
      have hxy : xs[m.toNat] = y := (List.getElem?_eq_some_iff.1 hy').2
      have haa := ha (by omega)
      subst haa
      have hsz : sz = i.size := by rw [← hs _ hm, hxy]; exact hl
      have hlt : m < (xs.length : Int) := by omega
      refine ⟨.pointer (some (ad.add (m.toNat * i.size))), _, ?_, .el y.leaves _ (fun q => vs m.toNat q) (fun q hq => ?_) (fun q hq => ?_) (fun q hq => ?_), hK⟩
      · simp [execOp, ho, he, he', Instr.indexAt, asIntOf, run_underlying ht, h0, hlt, sizeOf, typeInfo, hi]
      · have := h1 _ hm q (by rw [hxy]; exact hq)
        simpa only [hxy] using this
      · rw [add_add, ← hsz]
        exact hΦ _ hm q (by rw [hxy]; exact hq)
      · have := hr' _ hm q (by rw [hxy]; exact hq)
        simpa only [hxy] using this
  · rename_i id ver k m
    split at h
    · rename_i xb v0 e0 sz xs hH
      obtain ⟨rfl, rfl, h0, hlt, hK⟩ := h
      cases hv'
      cases hv with
      | row _ _ sz' ob ao n' cap hob hk hver hκ =>
        rw [hH] at hob
        cases hob
        simp only [O.kind, Prod.mk.injEq] at hk
        have hκ' := hκ rfl
        obtain ⟨hp, h1, cells, hown, h2, h3⟩ := hr.hp.objs id _ hH
        rcases hown.2 with ⟨hn0, hz⟩ | ⟨g, cap', cur, hv0, _⟩
        · omega
        · rw [← hκ'] at hv0
          injection hv0 with q1 q2 q3
          subst q1
          have hlt' : m < (n' : Int) := by omega
          refine ⟨.pointer (some ((⟨g, 0, none⟩ : Addr).add (m.toNat * i.size))), _, ?_, ?_, hK⟩
          · simp [execOp, ho, he, he', Instr.indexAt, asIntOf, run_underlying ht, h0, hlt', sizeOf, typeInfo, hi]
          · exact .rel id _ _ 0 i.size _ _ hH rfl (Nat.le_refl _) fun _ => ⟨g, n', cap, hκ'.symm, by rw [Addr.add_lit]; simp⟩
    · exact h.elim
  · exact h.elim
theorem sound_iaa {t e : TypeId} {x y : Operand} {x' y' : X} {i : TypeInfo} {m0 : Nat} (ho : o.op = .indexAddr t x y) (hx : Operand.toX x = some x') (hy : Operand.toX y = some y') (ht : P.underlying t = some (.array m0 e)) (hi : P.info? e = some i) (CA) (h : vcOp CA G (.iaa i.size m0 x' y') s H K) : OpA P G o s H K := by
  refine .pure fun F n c a w hr => ?_
  have hv := toX_ok hr hx
  have hv' := toX_ok hr hy
  simp only [vcOp] at h
  generalize x'.val G s = d at h hv
  generalize y'.val G s = d' at h hv'
  generalize he : a.eval x = v at hv
  generalize he' : a.eval y = v' at hv'
  have hrun : ∀ (ad : Addr) (k : IntKind) (m : Int), v = .pointer (some ad) → v' = .int k m → 0 ≤ m → m < m0 → (execOp a.eval o).run P w = .ok (.value (.pointer (some (ad.add (m.toNat * i.size))))) w := by
    intro ad k m q1 q2 h0 hlt
    subst q1 q2
    simp [execOp, ho, he, he', Instr.indexAt, asIntOf, run_underlying ht, Instr.sureAddr, h0, hlt, sizeOf, typeInfo, hi]
  split at h
  · rename_i ys k m
    obtain ⟨h0, hlt, hK⟩ := h
    cases hv'
    cases hv with
    | el _ ad vs h1 hΦ hr' =>
      refine ⟨_, _, hrun _ _ _ rfl rfl h0 hlt, .el _ _ (fun q => vs (m.toNat * i.size + q)) (fun q hq => ?_) (fun q hq => ?_) (fun q hq => ?_), hK⟩
      · rw [List.getElem_drop]; exact h1 _ _
      · simp only [List.length_drop] at hq
        rw [add_add]; exact hΦ _ (by omega)
      · rw [List.getElem_drop]; exact hr' _ _
  · rename_i id off k m
    obtain ⟨h0, hlt, hK⟩ := h
    cases hv'
    cases hv with
    | ptr _ _ b ob hob hk hver hκ =>
      refine ⟨_, _, hrun _ _ _ rfl rfl h0 hlt, ?_, hK⟩
      rw [Addr.add_lit]
      exact .ptr id _ b ob hob hk hver hκ
  · exact h.elim
theorem run_bounds {w : World} {len cap : Nat} {lo hi : Option Value} {l h : Int} (b : Bool) (hlo : lo = none ∧ l = 0 ∨ ∃ k, lo = some (.int k l)) (hhi : hi = none ∧ h = len ∨ ∃ k, hi = some (.int k h)) (h0 : 0 ≤ l) (h1 : l ≤ h) (h2 : h ≤ cap) :
    (Instr.sliceBounds b len cap lo hi none).run P w = .ok (l.toNat, h.toNat, cap) w := by
  have q1 : (l : Int) ≤ (h.toNat : Int) := by omega
  have q0 : 0 ≤ h := by omega
  rcases hlo with ⟨rfl, rfl⟩ | ⟨k, rfl⟩ <;> rcases hhi with ⟨rfl, rfl⟩ | ⟨k', rfl⟩ <;> simp_all [Instr.sliceBounds, Instr.sliceBound, asIntOf]
theorem bound_ok {F : Frm} {n : Nat} {c : Conc} {a : Act} {w : World} (hr : Rel G F n c ⟨s, H⟩ a w) {x : Option Operand} {x' : Option X} (hx : x.map Operand.toX = x'.map some) {d : Nat} {l : Int} (h : boundOf s G d x' = some l) :
    x.map a.eval = none ∧ l = d ∨ ∃ k, x.map a.eval = some (.int k l) := by
  cases x with
  | none =>
    cases x' with
    | none => simp only [boundOf, Option.some.injEq] at h; exact .inl ⟨rfl, h.symm⟩
    | some y => simp at hx
  | some x =>
    cases x' with
    | none => simp at hx
    | some y =>
      simp only [Option.map_some, Option.some.injEq] at hx
      have hv := toX_ok hr hx
      simp only [boundOf] at h
      simp only at hv
      generalize y.val G s = d at h hv
      split at h
      · rename_i k m
        simp only [Option.some.injEq] at h
        subst h
        generalize he : a.eval x = v at hv
        cases hv
        exact .inr ⟨k, by simp [he]⟩
      · cases h
theorem sound_slcS {t : TypeId} {x : Operand} {x' : X} {lo hi : Option Operand} {lo' hi' : Option X} (ho : o.op = .slice t x lo hi none) (hx : Operand.toX x = some x') (hlo : lo.map Operand.toX = lo'.map some) (hhi : hi.map Operand.toX = hi'.map some) (ht : P.underlying t = some .string) (CA)
    (h : vcOp CA G (.slcS x' lo' hi') s H K) : OpA P G o s H K := by
  refine .pure fun F n c a w hr => ?_
  have hv := toX_ok hr hx
  simp only [vcOp] at h
  generalize x'.val G s = d at h hv
  generalize he : a.eval x = v at hv
  split at h
  · rename_i b
    obtain ⟨l, hh, e1, e2, h0, h1, h2, hK⟩ := h
    cases hv
    have hb := run_bounds (P := P) (w := w) false (bound_ok hr hlo e1) (bound_ok hr hhi e2) h0 h1 h2
    refine ⟨_, _, ?_, .lit _, hK⟩
    simp [execOp, ho, he, Instr.sliceAt, Instr.slice, run_underlying ht, hb]
  · exact h.elim
theorem sound_slcL {t e : TypeId} {x : Operand} {x' : X} {lo hi : Option Operand} {lo' hi' : Option X} {i : TypeInfo} (ho : o.op = .slice t x lo hi none) (hx : Operand.toX x = some x') (hlo : lo.map Operand.toX = lo'.map some) (hhi : hi.map Operand.toX = hi'.map some) (ht : P.underlying t = some (.slice e)) (hi0 : P.info? e = some i) (CA)
    (h : vcOp CA G (.slcL i.size x' lo' hi') s H K) : OpA P G o s H K := by
  refine .pure fun F n c a w hr => ?_
  have hv := toX_ok hr hx
  simp only [vcOp] at h
  generalize x'.val G s = d at h hv
  generalize he : a.eval x = v at hv
  split at h
  · rename_i xs
    obtain ⟨l, hh, e1, e2, h0, h1, h2, hsz, hK⟩ := h
    cases hv with
    | sl _ ao ad cap sz vs hcap ha hs ho' hΦ hr' =>
      have hb := run_bounds (P := P) (w := w) (cap := cap) true (bound_ok hr hlo e1) (bound_ok hr hhi e2) h0 h1 (by omega)
      have hlen : ((xs.take hh.toNat).drop l.toNat).length = hh.toNat - l.toNat := by simp; omega
      refine ⟨.slice (if cap = l.toNat then ao else ao.map (·.add (l.toNat * i.size))) (hh.toNat - l.toNat) (cap - l.toNat), _, ?_, ?_, hK⟩
      · simp [execOp, ho, he, Instr.sliceAt, Instr.slice, run_underlying ht, hb, sizeOf, typeInfo, hi0]
      · rw [← hlen]
        have hget : ∀ j (hj : j < ((xs.take hh.toNat).drop l.toNat).length), ∃ hj' : l.toNat + j < xs.length, ((xs.take hh.toNat).drop l.toNat)[j]'hj = xs[l.toNat + j]'hj' := by
          intro j hj
          rw [hlen] at hj
          refine ⟨by omega, ?_⟩
          rw [List.getElem_drop, List.getElem_take]
        refine .sl _ _ (ad.add (l.toNat * i.size)) _ i.size (fun j q => vs (l.toNat + j) q) (by rw [hlen]; omega) (fun hp => ?_) (fun j hj => ?_) (fun j hj q hq => ?_) (fun j hj q hq => ?_) (fun j hj q hq => ?_)
        · rw [hlen] at hp
          rw [if_neg (by omega), ha (by omega)]; rfl
        · obtain ⟨p1, p2⟩ := hget j hj
          rw [p2]; exact hsz _ (List.getElem_mem p1)
        · obtain ⟨p1, p2⟩ := hget j hj
          have := ho' _ p1 q (by rw [← p2]; exact hq)
          simpa only [p2] using this
        · obtain ⟨p1, p2⟩ := hget j hj
          have := hΦ _ p1 q (by rw [← p2]; exact hq)
          have hss : sz = i.size := by rw [← hs _ p1]; exact hsz _ (List.getElem_mem p1)
          rw [add_add, ← this, hss, Nat.add_mul, Nat.add_assoc]
        · obtain ⟨p1, p2⟩ := hget j hj
          have := hr' _ p1 q (by rw [← p2]; exact hq)
          simpa only [p2] using this
  · exact h.elim
theorem sound_lenS {t : TypeId} {x : Operand} {x' : X} (ho : o.op = .call { callee := .builtin .len, args := #[x], argTypes := #[t] }) (hx : Operand.toX x = some x') (ht : P.underlying t = some .string) (CA) (h : vcOp CA G (.lenS x') s H K) : OpA P G o s H K := by
  refine .pure fun F n c a w hr => ?_
  have hv := toX_ok hr hx
  simp only [vcOp] at h
  generalize x'.val G s = d at h hv
  generalize he : a.eval x = v at hv
  split at h
  · cases hv
    refine ⟨_, _, ?_, .lit _, h⟩
    simp [execOp, ho, he, resolve, invoke, builtin, Builtin.len_, run_underlying ht, goInt]
  · exact h.elim
theorem sound_lenL {t e : TypeId} {x : Operand} {x' : X} (ho : o.op = .call { callee := .builtin .len, args := #[x], argTypes := #[t] }) (hx : Operand.toX x = some x') (ht : P.underlying t = some (.slice e)) (CA) (h : vcOp CA G (.lenL x') s H K) : OpA P G o s H K := by
  refine .pure fun F n c a w hr => ?_
  have hv := toX_ok hr hx
  simp only [vcOp] at h
  generalize x'.val G s = d at h hv
  generalize he : a.eval x = v at hv
  have hrun : ∀ b n c, v = .slice b n c → (execOp a.eval o).run P w = .ok (.value (.int .i64 n)) w := by
    intro b n c hv
    subst hv
    simp [execOp, ho, he, resolve, invoke, builtin, Builtin.len_, run_underlying ht, goInt]
  split at h
  · cases hv
    exact ⟨_, _, hrun _ _ _ rfl, .lit _, h⟩
  · cases hv with
    | sl _ ao ad cap sz vs hcap ha hs ho' hΦ hr' => exact ⟨_, _, hrun _ _ _ rfl, .lit _, h⟩
  · rename_i id ver
    split at h
    · rename_i xb v0 e0 sz xs hH
      obtain ⟨rfl, hK⟩ := h
      cases hv with
      | row _ _ sz' ob ao n' cap hob hk hver hκ =>
        rw [hH] at hob
        cases hob
        have hκ' := hκ rfl
        obtain ⟨hp, h1, cells, hown, h2, h3⟩ := hr.hp.objs id _ hH
        have hn : n' = xs.length := by
          rcases hown.2 with ⟨hn0, hz⟩ | ⟨g, cap', cur, hv0, _⟩
          · rw [← hκ'] at hn0; injection hn0 with _ q _; omega
          · rw [← hκ'] at hv0; injection hv0
        subst hn
        exact ⟨_, _, hrun _ _ _ rfl, .lit _, hK⟩
    · exact h.elim
  · exact h.elim
theorem sound_lenM {t k e : TypeId} {x : Operand} {x' : X} (ho : o.op = .call { callee := .builtin .len, args := #[x], argTypes := #[t] }) (hx : Operand.toX x = some x') (ht : P.underlying t = some (.map k e)) (CA) (h : vcOp CA G (.lenM x') s H K) : OpA P G o s H K := by
  refine .pure fun F n c a w hr => ?_
  have hv := toX_ok hr hx
  simp only [vcOp] at h
  generalize x'.val G s = d at h hv
  generalize he : a.eval x = v at hv
  split at h
  · rename_i id
    split at h
    · rename_i mv es hH
      cases hv with
      | mp _ b ob hob hk hver hκ =>
        obtain ⟨b', ms, clock, h1, h2, h3, h4⟩ := hr.hp.objs id _ hH
        rw [hκ] at h1
        injection h1 with h1
        injection h1 with h1
        subst h1
        refine ⟨_, _, ?_, .lit _, h⟩
        simp [execOp, ho, he, resolve, invoke, builtin, Builtin.len_, run_underlying ht, goInt, getObj, Sem.run, h2, h3.1]
    · exact h.elim
  · exact h.elim
theorem sound_mkmap {t : TypeId} (ho : o.op = .makeMap t none) (CA) (h : vcOp CA G .mkmap s H K) : OpA P G o s H K := by
  intro F n c a w hr
  refine .inl ⟨.map (some w.heap.size), w.alloc (.map #[] 0), updκ c H.length (.map (some w.heap.size)), H ++ [.map 0 []], .mp H.length, ?_, ?_, Ext.push _ _, ?_, ?_⟩
  · simp [execOp, ho, Instr.makeMap]
  · refine hr.hp.push (World.grownBy_alloc w _ none) _ _ (fun b hb => by simp only [blk, Option.some.injEq] at hb; omega) ?_
    exact ⟨w.heap.size, #[], 0, by simp [updκ], heap_alloc_new w _, ⟨rfl, fun i hi => by simp at hi⟩, by simp, by simp⟩
  · exact .mp H.length _ _ (by rw [getElem?_snoc, if_pos rfl]) rfl rfl (by simp [updκ])
  · exact h
theorem sound_call {f : Operand} {args : Array Operand} {ats : Array TypeId} {f' : X} {xs : List X} (ho : o.op = .call { callee := .value f, args := args, argTypes := ats }) (hf : Operand.toX f = some f') (hx : args.toList.map Operand.toX = xs.map some)
    (h : vcOp (CallA P G) G (.call f' xs) s H K) : OpA P G o s H K := by
  intro F n c a w hr
  have hv := toX_ok hr hf
  simp only [vcOp] at h
  simp only at hv
  generalize f'.val G s = d at h hv
  generalize he : a.eval f = v at hv
  have hl : args.size = xs.length := by have := congrArg List.length hx; simpa using this
  split at h
  · rename_i g caps
    cases hv with
    | fn _ _ cvs hn hr' =>
      obtain ⟨fn, e1, e2, e3⟩ := h.1
      refine .inr (.inr ⟨g, args.map a.eval ++ cvs, _, w, ?_, hr.hp, ?_, ?_, h⟩)
      · obtain ⟨b, hbb⟩ := Option.isSome_iff_exists.1 e3
        simp only [beq_eq_false_iff_ne, ne_eq] at e2
        simp [execOp, ho, he, resolve, Deferred.ofValue, invoke, callFunc, e1, e2, hbb]
      · simp [hl, hn]
      · intro i hi
        simp only [List.length_append, List.length_map] at hi
        by_cases h1 : i < xs.length
        · rw [List.getElem_append_left (by simpa using h1), List.getElem_map]
          have h2 := congrArg (fun l => l[i]?) hx
          simp only [List.getElem?_map, Array.getElem?_toList, Array.getElem?_eq_getElem (hl ▸ h1), List.getElem?_eq_getElem h1, Option.map_some, Option.some.injEq] at h2
          have h3 := toX_ok hr h2
          have : (args.map a.eval ++ cvs).getD i undef = a.eval (args[i]'(hl ▸ h1)) := by
            simp only [Array.getD_eq_getD_getElem?]
            rw [Array.getElem?_append_left (by simpa using hl ▸ h1)]
            simp [hl ▸ h1]
          rw [this]; exact h3
        · rw [List.getElem_append_right (by simpa using h1)]
          have : (args.map a.eval ++ cvs).getD i undef = cvs.getD (i - xs.length) undef := by
            simp only [Array.getD_eq_getD_getElem?]
            rw [Array.getElem?_append_right (by simp; omega)]
            simp [hl]
          rw [this]
          simp only [List.length_map]
          exact hr' _ _
  · exact h.elim
end
end Go.DL
