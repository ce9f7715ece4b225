/- Part of a proof of the statement Round; what it needs in which order stands in GOCLAIM.json. -/
import Derived.Scope
import Derived.IntWalk
import Derived.Lib.Strings
import Derived.Test.YtoehhfhjnjfgiaaDoorRoundB
set_option linter.unusedVariables false
set_option linter.unusedSimpArgs false
namespace Go.DL
open Go
section
variable {P : Program} {G : Nat → D} {n : Nat}
def LocalOk (CA : FuncId → List D → List O → (D → List O → Prop) → Prop) (G : Nat → D) (H : List O) (d : DOp) (s : Nat → D) (v : D) : Prop :=
  match d.guard with
  | none => vcOp CA G d.op s H fun x H' => x = v ∧ H' = H
  | some (g, b) => (s g = .lit (.bool b) ∧ vcOp CA G d.op s H fun x H' => x = v ∧ H' = H) ∨ ((s g = .lit (.bool !b) ∨ s g = .lit undef) ∧ v = .lit undef)
theorem outs_congr {ops : Array Oper} {val val' : Nat → D} : ∀ (l : List Nat) (s : Nat → D), (∀ i ∈ l, val i = val' i) → outs ops val s l = outs ops val' s l
  | [], s, _ => rfl
  | i :: l, s, h => by
    have hi := h i List.mem_cons_self
    show outs ops val (match (ops[i]?).bind (·.dst) with | some d => upd s d (val i) | none => s) l = outs ops val' (match (ops[i]?).bind (·.dst) with | some d => upd s d (val' i) | none => s) l
    rw [hi]
    exact outs_congr l _ fun j hj => h j (List.mem_cons_of_mem _ hj)
theorem outs_cons {ops : Array Oper} {val : Nat → D} {s : Nat → D} {i : Nat} {l : List Nat} {o : Oper} (ho : ops[i]? = some o) : outs ops val s (i :: l) = outs ops val (DL.put s o.dst (val i)) l := by
  show outs ops val (match (ops[i]?).bind (·.dst) with | some d => upd s d (val i) | none => s) l = _
  rw [ho]
  cases hd : o.dst with
  | none => simp [hd, DL.put]
  | some k => simp [hd, DL.put]
theorem vcDrw_val {CA : FuncId → List D → List O → (D → List O → Prop) → Prop} {h : Hints} {ops : Array Oper} {H : List O} {K : (Nat → D) → Prop} : ∀ (l : List Nat) (ds : List DOp), l.Nodup → trLd P n h ops l = some ds → ∀ s, vcDrw CA G H ds s K →
    ∃ val : Nat → D, (∀ p (hp : p < l.length) (hd : p < ds.length), LocalOk CA G H (ds[p]'hd) (outs ops val s (l.take p)) (val (l[p]'hp))) ∧ K (outs ops val s l)
  | [], ds, _, hd, s, hv => by
    simp only [trLd, Option.some.injEq] at hd; subst hd
    exact ⟨fun _ => .junk, fun p hp => by simp at hp, hv⟩
  | i :: l, ds, hnd, hd, s, hv => by
    simp only [trLd] at hd
    split at hd
    · rename_i d ds' h1 h2
      simp only [Option.some.injEq] at hd; subst hd
      obtain ⟨o, row, k1, k2, k3, k4, k5⟩ := trAt_ok h1
      have hil : i ∉ l := (List.nodup_cons.1 hnd).1

      have next : ∀ v, LocalOk CA G H d s v → vcDrw CA G H ds' (DL.put s d.dst v) K → ∃ val : Nat → D, (∀ p (hp : p < (i :: l).length) (hd : p < (d :: ds').length), LocalOk CA G H ((d :: ds')[p]'hd) (outs ops val s ((i :: l).take p)) (val ((i :: l)[p]'hp))) ∧ K (outs ops val s (i :: l)) := by
        intro v hlo hrest
        obtain ⟨val', q1, q2⟩ := vcDrw_val l ds' (List.nodup_cons.1 hnd).2 h2 _ hrest
        have hc : ∀ l', (∀ j ∈ l', j ∈ l) → outs ops (fun j => if j = i then v else val' j) (DL.put s o.dst v) l' = outs ops val' (DL.put s o.dst v) l' := fun l' hl' => outs_congr l' _ fun j hj => if_neg fun (e : j = i) => hil (e ▸ hl' j hj)
        refine ⟨fun j => if j = i then v else val' j, fun p hp hd => ?_, ?_⟩
        · cases p with
          | zero => simp only [List.take_zero, List.getElem_cons_zero, if_true]; exact hlo
          | succ p =>
            have hp' : p < l.length := by simpa using hp
            simp only [List.take_succ_cons, List.getElem_cons_succ]
            have hne : l[p] ≠ i := fun (e : l[p] = i) => hil (e ▸ List.getElem_mem hp')
            rw [if_neg hne, outs_cons k1]
            simp only [if_true]
            rw [hc _ fun j hj => List.mem_of_mem_take hj, ← k4]
            exact q1 p hp' (by simpa using hd)
        · rw [outs_cons k1]
          simp only [if_true]
          rw [hc _ fun j hj => hj, ← k4]
          exact q2
      obtain ⟨dst, op, guard⟩ := d
      cases guard with
      | none =>
        obtain ⟨v, e1, e2⟩ : ∃ v, vcOp CA G op s H (fun d H' => d = v ∧ H' = H) ∧ vcDrw CA G H ds' (DL.put s dst v) K := hv
        exact next v e1 e2
      | some gb =>
        obtain ⟨g, b⟩ := gb
        simp only [vcDrw] at hv
        split at hv
        · rename_i x hx
          obtain ⟨g1, g2⟩ := hv
          by_cases hxb : x = b
          · subst hxb
            obtain ⟨v, e1, e2⟩ := g1 rfl
            rw [upd_same s g _ hx] at e1 e2
            exact next v (.inl ⟨hx, e1⟩) e2
          · have hxn : x = !b := by cases x <;> cases b <;> simp_all
            subst hxn
            have e2 := g2 rfl
            rw [upd_same s g _ hx] at e2
            exact next _ (.inr ⟨.inl hx, rfl⟩) e2
        · rename_i hx
          exact next _ (.inr ⟨.inr hx, rfl⟩) hv
        · exact hv.elim
    · cases hd
theorem trLd_get {h : Hints} {ops : Array Oper} : ∀ (l : List Nat) (ds : List DOp), trLd P n h ops l = some ds → ds.length = l.length ∧ ∀ p (hp : p < l.length) (hd : p < ds.length), trAt P n h ops (l[p]'hp) = some (ds[p]'hd)
  | [], ds, hd => by simp only [trLd, Option.some.injEq] at hd; subst hd; exact ⟨rfl, fun p hp => by simp at hp⟩
  | i :: l, ds, hd => by
    simp only [trLd] at hd
    split at hd
    · rename_i d ds' h1 h2
      simp only [Option.some.injEq] at hd; subst hd
      obtain ⟨k1, k2⟩ := trLd_get l ds' h2
      refine ⟨by simp [k1], fun p hp hd => ?_⟩
      cases p with
      | zero => exact h1
      | succ p => exact k2 p (by simpa using hp) (by simpa using hd)
    · cases hd
theorem drw_sound {h : Hints} {ops : Array Oper} {id : Nat} {ds : List DOp} {s : Nat → D} {H : List O} {Q : Exit → (Nat → D) → List O → Prop} (hm : P.follows .mixedOrders = true) (hd : trLd P n h ops (List.range ops.size) = some ds) (hok : drawOk ops ds = true)
    (hv : vcDrw (CallA P G) G H ds s fun s' => Q .normal s' H) : CodeA P G n (.region id ops true) ⟨s, H⟩ fun x σ => Q x σ.s σ.H := by
  obtain ⟨val, q1, q2⟩ := vcDrw_val (List.range ops.size) ds List.nodup_range hd s hv
  obtain ⟨t1, t2⟩ := trLd_get _ _ hd
  rw [List.length_range] at t1
  simp only [drawOk, Bool.and_eq_true, List.all_eq_true, List.mem_range] at hok
  obtain ⟨d1, d2⟩ := hok
  have lt_of : ∀ (i : Nat) (t : Nat), dstOf ops i = some t → i < ops.size := by
    intro i t hi
    rcases Nat.lt_or_ge i ops.size with q | q
    · exact q
    · unfold dstOf at hi; rw [Array.getElem?_eq_none q] at hi; cases hi
  have hdist : ∀ (i j : Nat) (d : Tmp), (ops[i]?).bind (·.dst) = some d → (ops[j]?).bind (·.dst) = some d → i = j := by
    intro i j t hi hj
    have hi' : dstOf ops i = some t := hi
    have hj' : dstOf ops j = some t := hj
    have := d1 i (lt_of i t hi') j (lt_of j t hj')
    rw [hi', hj'] at this
    simpa using this
  have at_ : ∀ (i : Nat) (hi : i < ops.size), ∃ d, ds[i]? = some d ∧ trAt P n h ops i = some d ∧ LocalOk (CallA P G) G H d (outs ops val s (List.range i)) (val i) := by
    intro i hi
    have hid : i < ds.length := by omega
    have hir : i < (List.range ops.size).length := by simpa using hi
    refine ⟨ds[i], List.getElem?_eq_getElem hid, ?_, ?_⟩
    · have := t2 i hir hid
      simpa using this
    · have := q1 i hir hid
      rw [List.getElem_range, List.take_range, Nat.min_eq_left (by omega)] at this
      exact this
  have hacyc : ∀ (i : Nat) (o : Oper), ops[i]? = some o → ∀ e ∈ o.after, Region.binds .any e = true → e.on < i := by
    intro i o ho e he hb
    have hi : i < ops.size := (Array.getElem?_eq_some_iff.1 ho).1
    obtain ⟨d, e1, _, _⟩ := at_ i hi
    have := d2 i hi
    rw [ho, e1] at this
    simp only [Bool.and_eq_true, Array.all_eq_true'] at this
    have := this.1 e he
    simpa [hb] using this
  refine CodeA.draw hm val ?_ hdist hacyc ?_ q2
  · intro i o k ho hk
    have hi : i < ops.size := (Array.getElem?_eq_some_iff.1 ho).1
    obtain ⟨d, _, e2, _⟩ := at_ i hi
    obtain ⟨o', row, j1, j2, j3, j4, j5⟩ := trAt_ok e2
    rw [ho] at j1; cases j1
    exact j5 k hk
  · intro i o ho s' hag
    have hi : i < ops.size := (Array.getElem?_eq_some_iff.1 ho).1
    obtain ⟨d, e1, e2, e3⟩ := at_ i hi
    obtain ⟨o', row, j1, j2, j3, j4, j5⟩ := trAt_ok e2
    rw [ho] at j1; cases j1
    have hreads := d2 i hi
    rw [ho, e1] at hreads
    simp only [Bool.and_eq_true, List.all_eq_true, Bool.or_eq_true, List.mem_append, List.mem_range] at hreads
    have hsame : ∀ t, (t ∈ d.op.reads ∨ t ∈ (match d.guard with | some (g, _) => [g] | none => [] : List Nat)) → outs ops val s (List.range i) t = s' t := by
      intro t ht
      obtain ⟨o1, o2⟩ := outs_spec (val := val) (s := s) hdist (List.range i)
      rcases hreads.2 t ht with q | q
      · have hno : ∀ j : Nat, (ops[j]?).bind (·.dst) ≠ some t := by
          intro j hj
          have hj' : dstOf ops j = some t := hj
          have := q j (lt_of j t hj')
          rw [hj'] at this
          simp at this
        rw [o2 t fun j _ => hno j, hag.2 t hno]
      · rw [Array.any_eq_true'] at q
        obtain ⟨e, he, hb⟩ := q
        simp only [Bool.and_eq_true, beq_iff_eq] at hb
        have hd' : (ops[e.on]?).bind (·.dst) = some t := hb.2
        rw [hag.1 e he hb.1 t hd', o1 e.on t (List.mem_range.2 (hacyc i o ho e he hb.1)) hd']
    have hcg : ∀ K, vcOp (CallA P G) G d.op (outs ops val s (List.range i)) H K ↔ vcOp (CallA P G) G d.op s' H K := fun K => vcOp_congr fun t ht => hsame t (.inl ht)
    unfold LocalOk at e3
    rcases trGuard_ok j3 with ⟨g1, g2⟩ | ⟨j, b, t, g1, g2, g3, g4⟩
    · rw [g2] at e3
      exact .inl ⟨by unfold guardIs; rw [g1], trOp_sound j2 ((hcg _).1 e3)⟩
    · rw [g2] at e3
      simp only at e3
      have hgt : outs ops val s (List.range i) t = s' t := hsame t (.inr (by rw [g2]; simp))
      rw [hgt] at e3
      rcases e3 with ⟨e4, e5⟩ | ⟨e4, e5⟩
      · refine .inl ⟨?_, trOp_sound j2 ((hcg _).1 e5)⟩
        unfold guardIs; rw [g1]
        exact ⟨t, g3, .inl ⟨b, e4, by simp⟩⟩
      · refine .inr ⟨?_, e5⟩
        unfold guardIs; rw [g1]
        rcases e4 with e4 | e4
        · exact ⟨t, g3, .inl ⟨!b, e4, by cases b <;> rfl⟩⟩
        · exact ⟨t, g3, .inr ⟨e4, rfl⟩⟩
theorem CodeA.frz {cd : Code} {s : Nat → D} {H : List O} {Q : Exit → St → Prop} (t : Nat) (h : CodeA P G n cd ⟨upd s t (frzD (s t) H).1, (frzD (s t) H).2⟩ Q) : CodeA P G n cd ⟨s, H⟩ Q := by
  intro F c a w hr
  obtain ⟨c', k1, k2⟩ := hr.frz t
  exact wp_mono (h F c' a w k1) fun x a' w' ⟨σ', c'', j1, j2, j3⟩ => ⟨σ', c'', j1, k2.trans j2, j3⟩
theorem frz_sound {cd : Code} {Q : Exit → St → Prop} : ∀ (ts : List Nat) (s : Nat → D) (H : List O), vcFrz ts s H (fun s' H' => CodeA P G n cd ⟨s', H'⟩ Q) → CodeA P G n cd ⟨s, H⟩ Q
  | [], s, H, h => h
  | t :: ts, s, H, h => CodeA.frz t (frz_sound ts _ _ h)
theorem vcFrz_mono {K K' : (Nat → D) → List O → Prop} (hk : ∀ s H, K s H → K' s H) : ∀ (ts : List Nat) (s : Nat → D) (H : List O), vcFrz ts s H K → vcFrz ts s H K'
  | [], s, H, h => hk _ _ h
  | t :: ts, s, H, h => vcFrz_mono hk ts _ _ h
theorem RelH.own {F : Frm} {c : Conc} {H : List O} {w : World} (h : RelH F c H w) (e : TypeId) {sz : Nat} (hs : 0 < sz) :
    RelH F (updκ c H.length (.slice none 0 0)) (H ++ [.row true 0 e sz []]) w :=
  h.push (grownBy_refl w none) _ _ (fun b hb => by cases hb)
    ⟨hs, fun y hy => by simp at hy, [], by simp only [updκ, if_true]; exact World.ownsRow_nil w 0 e sz, fun k hk => by simp [flat] at hk, fun g hg => by simp [updκ, blk] at hg⟩
theorem RdV.own {c : Conc} {H : List O} (e : TypeId) (sz : Nat) : RdV (updκ c H.length (.slice none 0 0)) (H ++ [.row true 0 e sz []]) (.row H.length 0) (.slice none 0 0) :=
  .row H.length 0 sz _ none 0 0 (by rw [getElem?_snoc, if_pos rfl]) rfl (Nat.le_refl _) fun _ => by simp [updκ]
theorem RelH.rebox {F : Frm} {c : Conc} {H : List O} {w : World} (h : RelH F c H w) {id : Nat} {e : TypeId} {ys ys' : List D} (ho : H[id]? = some (.box e ys)) (hl : ys'.length = ys.length) (h1 : ∀ z ∈ ys', z.one = true)
    (hr : ∀ i (hi : i < ys.length) v, RdV c H (ys[i]'hi) v → RdV c H (ys'[i]'(hl ▸ hi)) v) : RelH F c (H.set id (.box e ys')) w ∧ Ext c H c (H.set id (.box e ys')) := by
  have hid : id < H.length := (List.getElem?_eq_some_iff.1 ho).1
  have hE : Ext c H c (H.set id (.box e ys')) := ⟨fun _ _ q => q, fun i o hi => by
    by_cases hii : i = id
    · subst hii
      rw [ho] at hi; cases hi
      exact ⟨.box e ys', List.getElem?_set_self hid, rfl, Nat.le_refl _, fun _ => rfl⟩
    · exact ⟨o, by rw [List.getElem?_set_ne (by omega)]; exact hi, rfl, Nat.le_refl _, fun _ => rfl⟩⟩
  refine ⟨?_, hE⟩
  obtain ⟨b, cs, q1, q2, q3, q4, q5, q6⟩ := h.objs id _ ho
  refine h.step none id (grownBy_refl _ _) (fun b hb => by cases hb) hE (fun _ _ _ => rfl) (fun i hi => List.getElem?_set_ne (by omega)) (fun a v ha => .inl ha) (fun _ _ _ hr => by cases hr) ?_ (fun b _ hb => .inl ⟨hid, hb⟩) ?_
  · intro o hoo
    rw [List.getElem?_set_self hid] at hoo
    cases hoo
    exact ⟨b, cs, q1, q2, by omega, fun i hi => (hr i (hl ▸ hi) _ (q4 i (hl ▸ hi))).ext hE, h1, q6⟩
  · intro ver' es hm; rw [ho] at hm; cases hm
theorem Rel.own {F : Frm} {c : Conc} {s : Nat → D} {H : List O} {a : Act} {w : World} (hr : Rel G F n c ⟨s, H⟩ a w) {t : Nat} (e : TypeId) {sz : Nat} (hs : 0 < sz) (ht : s t = .lit (.slice none 0 0)) :
    ∃ c', Rel G F n c' ⟨upd s t (.row H.length 0), H ++ [.row true 0 e sz []]⟩ a w ∧ Ext c H c' (H ++ [.row true 0 e sz []]) := by
  have hE := Ext.push (c := c) (H := H) (.row true 0 e sz []) (.slice none 0 0)
  refine ⟨_, ⟨hr.defers, hr.size, fun i => ?_, fun g => (hr.glob g).ext hE, hr.hp.own e hs⟩, hE⟩
  simp only [upd]
  split
  · rename_i hi
    subst hi
    have := hr.slots i
    simp only at this
    rw [ht] at this
    generalize a.tmps.getD i undef = v at this
    cases this
    exact RdV.own e sz
  · exact (hr.slots i).ext hE
theorem Rel.ownb {F : Frm} {c : Conc} {s : Nat → D} {H : List O} {a : Act} {w : World} (hr : Rel G F n c ⟨s, H⟩ a w) {id j : Nat} {e' : TypeId} {ys : List D} (e : TypeId) {sz : Nat} (hs : 0 < sz) (ho : H[id]? = some (.box e' ys)) (hj : ys[j]? = some (.lit (.slice none 0 0))) :
    ∃ c', Rel G F n c' ⟨s, H.set id (.box e' (ys.set j (.row H.length 0))) ++ [.row true 0 e sz []]⟩ a w ∧ Ext c H c' (H.set id (.box e' (ys.set j (.row H.length 0))) ++ [.row true 0 e sz []]) := by
  have hid : id < H.length := (List.getElem?_eq_some_iff.1 ho).1
  have hE := Ext.push (c := c) (H := H) (.row true 0 e sz []) (.slice none 0 0)
  have hp := hr.hp.own e hs
  have ho' : (H ++ [O.row true 0 e sz []])[id]? = some (.box e' ys) := by rw [List.getElem?_append_left hid]; exact ho
  have h1 : ∀ z ∈ ys, z.one = true := by obtain ⟨_, _, _, _, _, _, q5, _⟩ := hr.hp.objs id _ ho; exact q5
  obtain ⟨k1, k2⟩ := hp.rebox (ys' := ys.set j (.row H.length 0)) ho' (by simp) (fun z hz => by
    rcases List.mem_or_eq_of_mem_set hz with q | q
    · exact h1 z q
    · subst q; rfl) (fun i hi v hv => by
    by_cases hij : j = i
    · subst hij
      have : ys[j]'hi = .lit (.slice none 0 0) := by rw [List.getElem?_eq_getElem hi] at hj; exact Option.some.inj hj
      rw [this] at hv
      cases hv
      simp only [List.getElem_set_self]
      exact RdV.own e sz
    · rw [List.getElem_set_ne hij]; exact hv)
  have hset : (H ++ [O.row true 0 e sz []]).set id (.box e' (ys.set j (.row H.length 0))) = H.set id (.box e' (ys.set j (.row H.length 0))) ++ [.row true 0 e sz []] := by
    rw [List.set_append_left _ _ hid]
  rw [hset] at k1 k2
  have hE' := hE.trans k2
  exact ⟨_, ⟨hr.defers, hr.size, fun i => (hr.slots i).ext hE', fun g => (hr.glob g).ext hE', k1⟩, hE'⟩
theorem Rel.frzb {F : Frm} {c : Conc} {s : Nat → D} {H : List O} {a : Act} {w : World} (hr : Rel G F n c ⟨s, H⟩ a w) {id j : Nat} {e' : TypeId} {ys : List D} {i v : Nat} {x : Bool} {e : TypeId} {sz : Nat} {xs : List D}
    (ho : H[id]? = some (.box e' ys)) (hj : ys[j]? = some (.row i v)) (hi : H[i]? = some (.row x v e sz xs)) :
    ∃ c', Rel G F n c' ⟨s, (H.set i (.row false v e sz xs)).set id (.box e' (ys.set j (.sl xs)))⟩ a w ∧ Ext c H c' ((H.set i (.row false v e sz xs)).set id (.box e' (ys.set j (.sl xs)))) := by
  obtain ⟨c', k1, k2, k3⟩ := hr.hp.freeze hi
  have hne : i ≠ id := fun h => by subst h; rw [hi] at ho; cases ho
  have ho' : (H.set i (.row false v e sz xs))[id]? = some (.box e' ys) := by rw [List.getElem?_set_ne hne]; exact ho
  have hkκ : c'.κ i = c.κ i := by
    obtain ⟨o', q1, q2, q3, q4⟩ := k2.obj i _ hi
    exact q4 (by have hil := (List.getElem?_eq_some_iff.1 hi).1; rw [List.getElem?_set_self hil] at q1; cases q1; rfl)
  have h1 : ∀ z ∈ ys, z.one = true := by obtain ⟨_, _, _, _, _, _, q5, _⟩ := hr.hp.objs id _ ho; exact q5
  obtain ⟨j1, j2⟩ := k1.rebox (ys' := ys.set j (.sl xs)) ho' (by simp) (fun z hz => by
    rcases List.mem_or_eq_of_mem_set hz with q | q
    · exact h1 z q
    · subst q; rfl) (fun k hk u hu => by
    by_cases hjk : j = k
    · subst hjk
      have : ys[j]'hk = .row i v := by rw [List.getElem?_eq_getElem hk] at hj; exact Option.some.inj hj
      rw [this] at hu
      simp only [List.getElem_set_self]
      cases hu with
      | row _ _ sz' ob ao n' cap hob hkk hver hκ =>
        have hil := (List.getElem?_eq_some_iff.1 hi).1
        rw [List.getElem?_set_self hil] at hob
        cases hob
        rw [hκ rfl, hkκ]; exact k3
    · rw [List.getElem_set_ne hjk]; exact hu)
  have hE := k2.trans j2
  exact ⟨_, ⟨hr.defers, hr.size, fun i => (hr.slots i).ext hE, fun g => (hr.glob g).ext hE, j1⟩, hE⟩
theorem gh_sound {F : Frm} {a : Act} {w : World} {K : (Nat → D) → List O → Prop} : ∀ (gs : List Gh) (c : Conc) (s : Nat → D) (H : List O), Rel G F n c ⟨s, H⟩ a w → vcGh gs s H K → ∃ c' s' H', Rel G F n c' ⟨s', H'⟩ a w ∧ Ext c H c' H' ∧ K s' H'
  | [], c, s, H, hr, hv => ⟨c, s, H, hr, Ext.refl _ _, hv⟩
  | .own t e sz :: gs, c, s, H, hr, hv => by
    obtain ⟨h1, h2, h3⟩ := hv
    obtain ⟨c', k1, k2⟩ := hr.own e h2 h1
    obtain ⟨c'', s', H', j1, j2, j3⟩ := gh_sound gs c' _ _ k1 h3
    exact ⟨c'', s', H', j1, k2.trans j2, j3⟩
  | .ownb t j e sz :: gs, c, s, H, hr, hv => by
    obtain ⟨id, e', ys, h1, h2, h3, h4, h5⟩ := hv
    obtain ⟨c', k1, k2⟩ := hr.ownb e h4 h2 h3
    obtain ⟨c'', s', H', j1, j2, j3⟩ := gh_sound gs c' _ _ k1 h5
    exact ⟨c'', s', H', j1, k2.trans j2, j3⟩
  | .frz t :: gs, c, s, H, hr, hv => by
    obtain ⟨c', k1, k2⟩ := hr.frz t
    obtain ⟨c'', s', H', j1, j2, j3⟩ := gh_sound gs c' _ _ k1 hv
    exact ⟨c'', s', H', j1, k2.trans j2, j3⟩
  | .frzb t j :: gs, c, s, H, hr, hv => by
    obtain ⟨id, e', ys, i, v, x, e, sz, xs, h1, h2, h3, h4, h5⟩ := hv
    obtain ⟨c', k1, k2⟩ := hr.frzb h2 h3 h4
    obtain ⟨c'', s', H', j1, j2, j3⟩ := gh_sound gs c' _ _ k1 h5
    exact ⟨c'', s', H', j1, k2.trans j2, j3⟩
theorem vcGh_mono {K K' : (Nat → D) → List O → Prop} (hk : ∀ s H, K s H → K' s H) : ∀ (gs : List Gh) (s : Nat → D) (H : List O), vcGh gs s H K → vcGh gs s H K'
  | [], s, H, h => hk _ _ h
  | .own t e sz :: gs, s, H, h => ⟨h.1, h.2.1, vcGh_mono hk gs _ _ h.2.2⟩
  | .ownb t j e sz :: gs, s, H, h => by obtain ⟨id, e', ys, h1, h2, h3, h4, h5⟩ := h; exact ⟨id, e', ys, h1, h2, h3, h4, vcGh_mono hk gs _ _ h5⟩
  | .frz t :: gs, s, H, h => vcGh_mono hk gs _ _ h
  | .frzb t j :: gs, s, H, h => by obtain ⟨id, e', ys, i, v, x, e, sz, xs, h1, h2, h3, h4, h5⟩ := h; exact ⟨id, e', ys, i, v, x, e, sz, xs, h1, h2, h3, h4, vcGh_mono hk gs _ _ h5⟩
theorem CodeA.gh {cd : Code} {σ : St} {gs : List Gh} {Q : Exit → (Nat → D) → List O → Prop} (h : CodeA P G n cd σ fun x σ' => match x with
    | .normal => vcGh gs σ'.s σ'.H fun s' H' => Q .normal s' H'
    | x => Q x σ'.s σ'.H) : CodeA P G n cd σ fun x σ' => Q x σ'.s σ'.H := by
  intro F c a w hr
  refine wp_mono (h F c a w hr) ?_
  rintro x a' w' ⟨σ', c', k1, k2, k3⟩
  cases x with
  | normal =>
    obtain ⟨c'', s', H', j1, j2, j3⟩ := gh_sound gs c' σ'.s σ'.H k1 k3
    exact ⟨⟨s', H'⟩, c'', j1, k2.trans j2, j3⟩
  | _ => exact ⟨σ', c', k1, k2, k3⟩
theorem own_sound {cd : Code} {d : DC} {gs : List Gh} (hd : ∀ s H (Q : Exit → (Nat → D) → List O → Prop), vc (CallA P G) G d s H Q → CodeA P G n cd ⟨s, H⟩ fun x σ => Q x σ.s σ.H) (s : Nat → D) (H : List O) (Q : Exit → (Nat → D) → List O → Prop)
    (hv : vc (CallA P G) G (withOwn d gs) s H Q) : CodeA P G n cd ⟨s, H⟩ fun x σ => Q x σ.s σ.H := by
  cases gs with
  | nil => exact hd s H Q hv
  | cons g gs =>
    refine CodeA.gh (gs := g :: gs) ((hd s H _ hv).mono fun x σ q => ?_)
    cases x <;> exact q
theorem pre_sound {cd : Code} {d : DC} {gs : List Gh} (hd : ∀ s H (Q : Exit → (Nat → D) → List O → Prop), vc (CallA P G) G d s H Q → CodeA P G n cd ⟨s, H⟩ fun x σ => Q x σ.s σ.H) (s : Nat → D) (H : List O) (Q : Exit → (Nat → D) → List O → Prop)
    (hv : vc (CallA P G) G (withPre d gs) s H Q) : CodeA P G n cd ⟨s, H⟩ fun x σ => Q x σ.s σ.H := by
  cases gs with
  | nil => exact hd s H Q hv
  | cons g gs =>
    intro F c a w hr
    have hv' : vcGh (g :: gs) s H fun s' H' => vc (CallA P G) G d s' H' Q := hv
    obtain ⟨c', s', H', j1, j2, j3⟩ := gh_sound (g :: gs) c s H hr hv'
    exact wp_mono (hd s' H' Q j3 F c' a w j1) fun x a' w' ⟨σ', c'', q1, q2, q3⟩ => ⟨σ', c'', q1, j2.trans q2, q3⟩
theorem trCode_sound (hm : P.follows .mixedOrders = true) {h : Hints} : ∀ (cd : Code) (d : DC), trCode P n h cd = some d → ∀ s H (Q : Exit → (Nat → D) → List O → Prop), vc (CallA P G) G d s H Q → CodeA P G n cd ⟨s, H⟩ fun x σ => Q x σ.s σ.H := by
  intro cd
  induction cd with
  | skip => intro d hd s H Q hv; simp only [trCode, Option.some.injEq] at hd; subst hd; exact .skip hv
  | label l => intro d hd s H Q hv; simp only [trCode, Option.some.injEq] at hd; subst hd; exact .label hv
  | exit id => intro d hd s H Q hv; simp only [trCode, Option.some.injEq] at hd; subst hd; exact .exit hv
  | ret => intro d hd s H Q hv; simp only [trCode, Option.some.injEq] at hd; subst hd; exact .ret hv
  | region id ops draw =>
    intro d hd s H Q hv
    cases draw with
    | false =>
      simp only [trCode, Option.map_eq_some_iff] at hd
      obtain ⟨ds, h1, rfl⟩ := hd
      refine pre_sound (own_sound (fun s H Q hv => ?_)) s H Q hv
      have base : ∀ s H, vcOps (CallA P G) G ds s H (fun s' H' => Q .normal s' H') → CodeA P G n (.region id ops false) ⟨s, H⟩ fun x σ => Q x σ.s σ.H := fun s H hv => .region (trL_sound (K := fun σ => Q .normal σ.s σ.H) _ _ h1 s H hv)
      split at hv
      · exact base s H hv
      · exact frz_sound _ s H (vcFrz_mono (fun s H q => base s H q) _ _ _ hv)
    | true =>
      simp only [trCode] at hd
      split at hd
      · rename_i ds h1
        split at hd
        · rename_i hok
          simp only [Option.some.injEq] at hd
          subst hd
          refine pre_sound (own_sound (fun s H Q hv => ?_)) s H Q hv
          have base : ∀ s H, vcDrw (CallA P G) G H ds s (fun s' => Q .normal s' H) → CodeA P G n (.region id ops true) ⟨s, H⟩ fun x σ => Q x σ.s σ.H := fun s H hv => drw_sound hm h1 hok hv
          split at hv
          · exact base s H hv
          · exact frz_sound _ s H (vcFrz_mono (fun s H q => base s H q) _ _ _ hv)
        · cases hd
      · cases hd
  | seq a b iha ihb =>
    intro d hd s H Q hv
    simp only [trCode] at hd
    split at hd
    · rename_i x y h1 h2
      simp only [Option.some.injEq] at hd; subst hd
      refine .seq ((iha x h1 s H _ hv).mono fun e σ q => ?_)
      cases e <;> first | exact ihb y h2 _ _ _ q | exact q
    · cases hd
  | cond c a b iha ihb =>
    intro d hd s H Q hv
    simp only [trCode] at hd
    split at hd
    · rename_i z x y h1 h2 h3
      simp only [Option.some.injEq] at hd; subst hd
      intro F cc ac w hr
      have hz := toX_ok hr h1
      simp only [vc] at hv
      generalize z.val G s = dz at hv hz
      generalize he : ac.eval c = v at hz
      split at hv
      · rename_i t
        cases hz
        cases t with
        | true => exact wp_cond_true he (iha x h2 s H Q (hv.1 rfl) F cc ac w hr)
        | false => exact wp_cond_false he (ihb y h3 s H Q (hv.2 rfl) F cc ac w hr)
      · exact hv.elim
    · cases hd
  | block id a iha =>
    intro d hd s H Q hv
    simp only [trCode, Option.map_eq_some_iff] at hd
    obtain ⟨x, h1, rfl⟩ := hd
    refine .block ((iha x h1 s H _ hv).mono fun e σ q => ?_)
    cases e with
    | exit i => simp only [blockQ]; exact q
    | _ => exact q
  | loop a iha =>
    intro d hd s H Q hv
    simp only [trCode, Option.map_eq_some_iff] at hd
    obtain ⟨x, h1, rfl⟩ := hd
    obtain ⟨I, μ, h2, h3⟩ := hv
    refine .loop (fun σ => I σ.s σ.H) (fun σ => μ σ.s σ.H) h2 fun σ' hI => (iha x h1 σ'.s σ'.H _ (h3 σ'.s σ'.H hI)).mono fun e σ q => ?_
    cases e <;> exact q
  | scope a iha =>
    intro d hd s H Q hv
    simp only [trCode, Option.map_eq_some_iff] at hd
    obtain ⟨x, h1, rfl⟩ := hd
    intro F c ac w hr
    refine wp_scope_straight (wp_mono (iha x h1 s H _ hv F c ac w hr) ?_)
    rintro e a' w' ⟨σ', c', k1, k2, k3⟩
    cases e with
    | goto l => exact k3.elim
    | _ => exact ⟨σ', c', k1, k2, k3⟩
  | rangeFunc f p a b _ _ => intro d hd; simp [trCode] at hd
  | goto l => intro d hd; simp [trCode] at hd
  | refuse w => intro d hd; simp [trCode] at hd
end
end Go.DL
set_option linter.unusedVariables false
set_option linter.unusedSimpArgs false
namespace Go.DL
open Go
inductive Below (n : Nat) : D → Prop
  | lit (v : Value) : Below n (.lit v)
  | agg (xs : List D) (h : ∀ i (hi : i < xs.length), Below n (xs[i]'hi)) : Below n (.agg xs)
  | sl (xs : List D) (h : ∀ j (hj : j < xs.length) i (hi : i < (xs[j]'hj).leaves.length), Below n ((xs[j]'hj).leaves[i]'hi)) : Below n (.sl xs)
  | el (ys : List D) (h : ∀ i (hi : i < ys.length), Below n (ys[i]'hi)) : Below n (.el ys)
  | row (id ver : Nat) (h : id < n) : Below n (.row id ver)
  | rel (id ver j k : Nat) (h : id < n) : Below n (.rel id ver j k)
  | ptr (id off : Nat) (h : id < n) : Below n (.ptr id off)
  | mp (id : Nat) (h : id < n) : Below n (.mp id)
  | it (id : Nat) (h : id < n) : Below n (.it id)
  | tup (xs : List D) (h : ∀ i (hi : i < xs.length), Below n (xs[i]'hi)) : Below n (.tup xs)
  | fn (f : FuncId) (xs : List D) (h : ∀ i (hi : i < xs.length), Below n (xs[i]'hi)) : Below n (.fn f xs)
  | nn : Below n .nn
  | junk : Below n .junk
theorem RdV.refs {c : Conc} {H : List O} {d : D} {v : Value} (h : RdV c H d v) : Below H.length d := by
  have lt : ∀ {id : Nat} {o : O}, H[id]? = some o → id < H.length := fun h => (List.getElem?_eq_some_iff.1 h).1
  induction h with
  | lit v => exact .lit v
  | agg xs cs hn h1 _ ih => exact .agg xs ih
  | sl xs a ad cap s vs hcap ha hs h1 hΦ _ ih => exact .sl xs ih
  | el ys ad vs h1 hΦ _ ih => exact .el ys ih
  | row id ver s o a n cap ho hk hv he => exact .row id ver (lt ho)
  | rel id ver j k s o ad ho hk hv he => exact .rel id ver j k (lt ho)
  | ptr id off b o ho hk hv he => exact .ptr id off (lt ho)
  | mp id b o ho hk hv he => exact .mp id (lt ho)
  | it id b o ho hk hv he => exact .it id (lt ho)
  | tup xs vs hn _ ih => exact .tup xs ih
  | fn f caps vs hn _ ih => exact .fn f caps ih
  | nn t v => exact .nn
  | junk v => exact .junk
theorem RdV.trunc {c : Conc} {H Gs : List O} {d : D} {v : Value} (h : RdV c (H ++ Gs) d v) (hb : Below H.length d) : RdV c H d v := by
  have get : ∀ {id : Nat} {o : O}, (H ++ Gs)[id]? = some o → id < H.length → H[id]? = some o := fun h hl => by rwa [List.getElem?_append_left hl] at h
  induction h with
  | lit v => exact .lit v
  | agg xs cs hn h1 _ ih => cases hb with | agg _ hb => exact .agg xs cs hn h1 fun i hi => ih i hi (hb i hi)
  | sl xs a ad cap s vs hcap ha hs h1 hΦ _ ih => cases hb with | sl _ hb => exact .sl xs a ad cap s vs hcap ha hs h1 hΦ fun j hj i hi => ih j hj i hi (hb j hj i hi)
  | el ys ad vs h1 hΦ _ ih => cases hb with | el _ hb => exact .el ys ad vs h1 hΦ fun i hi => ih i hi (hb i hi)
  | row id ver s o a n cap ho hk hv he => cases hb with | row _ _ hb => exact .row id ver s o a n cap (get ho hb) hk hv he
  | rel id ver j k s o ad ho hk hv he => cases hb with | rel _ _ _ _ hb => exact .rel id ver j k s o ad (get ho hb) hk hv he
  | ptr id off b o ho hk hv he => cases hb with | ptr _ _ hb => exact .ptr id off b o (get ho hb) hk hv he
  | mp id b o ho hk hv he => cases hb with | mp _ hb => exact .mp id b o (get ho hb) hk hv he
  | it id b o ho hk hv he => cases hb with | it _ hb => exact .it id b o (get ho hb) hk hv he
  | tup xs vs hn _ ih => cases hb with | tup _ hb => exact .tup xs vs hn fun i hi => ih i hi (hb i hi)
  | fn f caps vs hn _ ih => cases hb with | fn _ _ hb => exact .fn f caps vs hn fun i hi => ih i hi (hb i hi)
  | nn t v => exact .nn t v
  | junk v => exact .junk v
def O.Below (n : Nat) : O → Prop
  | .row _ _ _ _ xs => ∀ z ∈ flat xs, DL.Below n z
  | .box _ ys => ∀ z ∈ ys, DL.Below n z
  | .map _ es => ∀ p ∈ es, DL.Below n p.2
  | .iter m .. => m < n
theorem OOk.below {c : Conc} {H : List O} {w : World} {id : Nat} {o : O} (h : OOk c H w id o) : o.Below H.length := by
  cases o with
  | row x ver e s xs =>
    obtain ⟨_, _, cells, _, h2, _⟩ := h
    intro z hz
    obtain ⟨k, hk, rfl⟩ := List.getElem_of_mem hz
    exact (h2 k hk).refs
  | box e ys =>
    obtain ⟨b, cs, _, _, _, h4, _⟩ := h
    intro z hz
    obtain ⟨k, hk, rfl⟩ := List.getElem_of_mem hz
    exact (h4 k hk).refs
  | map mv es =>
    obtain ⟨b, ms, clock, _, _, h3, _⟩ := h
    intro p hp
    obtain ⟨k, hk, rfl⟩ := List.getElem_of_mem hp
    exact (h3.2 k hk).2.refs
  | iter m mv left cur =>
    obtain ⟨b, bm, since, seen, last, ver, es, _, _, _, h4, _⟩ := h
    exact (List.getElem?_eq_some_iff.1 h4).1
theorem OOk.trunc {c : Conc} {H Gs : List O} {w : World} {id : Nat} {o : O} (h : OOk c (H ++ Gs) w id o) (hb : o.Below H.length) : OOk c H w id o := by
  cases o with
  | row x ver e s xs =>
    obtain ⟨h0, h1, cells, hown, h2, h3⟩ := h
    exact ⟨h0, h1, cells, hown, fun k hk => (h2 k hk).trunc (hb _ (List.getElem_mem hk)), h3⟩
  | box e ys =>
    obtain ⟨b, cs, h1, h2, h3, h4, h5⟩ := h
    exact ⟨b, cs, h1, h2, h3, fun i hi => (h4 i hi).trunc (hb _ (List.getElem_mem hi)), h5⟩
  | map mv es =>
    obtain ⟨b, ms, clock, h1, h2, h3, h4⟩ := h
    exact ⟨b, ms, clock, h1, h2, ⟨h3.1, fun i hi => ⟨(h3.2 i hi).1, (h3.2 i hi).2.trunc (hb _ (List.getElem_mem hi))⟩⟩, h4⟩
  | iter m mv left cur =>
    obtain ⟨b, bm, since, seen, last, ver, es, h1, h2, h3, h4, h5⟩ := h
    exact ⟨b, bm, since, seen, last, ver, es, h1, h2, h3, by rwa [List.getElem?_append_left hb] at h4, h5⟩
theorem RelH.trunc {F : Frm} {c : Conc} {H Gs : List O} {w : World} (h : RelH F c (H ++ Gs) w) (hb : ∀ o ∈ H, o.Below H.length) : RelH F c H w := by
  refine ⟨h.good, fun id o ho => ?_, fun i j b hi hj => h.apart i j b (by simp; omega) (by simp; omega), fun i b hi => h.free i b (by simp; omega), h.keeps⟩
  have hid := (List.getElem?_eq_some_iff.1 ho).1
  exact (h.objs id o (by rw [List.getElem?_append_left hid]; exact ho)).trunc (hb o (List.mem_of_getElem? ho))
theorem Ext.trunc {c c' : Conc} {H Gs : List O} (h : Ext c H c' (H ++ Gs)) : Ext c H c' H :=
  ⟨h.Φ, fun id o ho => by
    obtain ⟨o', k1, k2, k3, k4⟩ := h.obj id o ho
    rw [List.getElem?_append_left (List.getElem?_eq_some_iff.1 ho).1] at k1
    exact ⟨o', k1, k2, k3, k4⟩⟩
theorem RelH.below {F : Frm} {c : Conc} {H : List O} {w : World} (h : RelH F c H w) : ∀ o ∈ H, o.Below H.length := by
  intro o ho
  obtain ⟨i, hi, rfl⟩ := List.getElem_of_mem ho
  exact (h.objs i _ (List.getElem?_eq_getElem hi)).below
section
variable {P : Program} {G : Nat → D}
theorem CallA.drop {f : FuncId} {ds : List D} {H : List O} {Q : D → List O → Prop} (h : CallA P G f ds H fun d H' => ∃ Gs, H' = H ++ Gs ∧ Below H.length d ∧ Q d H) : CallA P G f ds H Q := by
  refine ⟨h.1, fun F c w vs h1 h2 h3 h4 => (h.2 F c w vs h1 h2 h3 h4).mono ?_⟩
  rintro e w' ⟨v, d, c', H', rfl, k1, k2, k3, Gs, rfl, k4, k5⟩
  exact ⟨v, d, c', H, rfl, k1.trunc h1.below, k2.trunc, k3.trunc k4, k5⟩
inductive RV where
  | tmp (t : Nat)
  | cell (t n : Nat) (agg : Bool)
def trRes (P : Program) : List ResultVar → Option (List RV)
  | [] => some []
  | .tmp t :: rest => (trRes P rest).map fun rs => .tmp t :: rs
  | .cell t ty :: rest => match P.info? ty, P.underlying ty, trRes P rest with
    | some i, some d, some rs => if isAggD d || i.size == 1 then some (.cell t i.size (isAggD d) :: rs) else none
    | _, _, _ => none
def vcRes : List RV → (Nat → D) → List O → (List D → Prop) → Prop
  | [], s, H, K => K []
  | .tmp t :: rest, s, H, K => vcRes rest s H fun ds => K (s t :: ds)
  | .cell t n agg :: rest, s, H, K => match s t with
    | .ptr id off => match H[id]? with
      | some (.box _ ys) => off + n ≤ ys.length ∧ vcRes rest s H fun ds => K (mkD agg ((ys.drop off).take n) :: ds)
      | _ => False
    | _ => False
def resStep (tmps : Array Value) : ResultVar → Sem Value
  | .tmp t => pure (tmps.getD t undef)
  | .cell t ty => do loadVar ty (← asAddr (tmps.getD t undef))
theorem vcRes_sound {F : Frm} {n : Nat} {c : Conc} {a : Act} {w : World} : ∀ (l : List ResultVar) (rs : List RV), trRes P l = some rs → ∀ (s : Nat → D) (H : List O) (K : List D → Prop), Rel G F n c ⟨s, H⟩ a w → vcRes rs s H K →
    ∃ (vs : List Value) (ds : List D), (l.mapM (resStep a.tmps)).run P w = .ok vs w ∧ RdL c H ds vs ∧ K ds
  | [], rs, hrs, s, H, K, hr, hv => by
    simp only [trRes, Option.some.injEq] at hrs; subst hrs
    exact ⟨[], [], rfl, .nil, hv⟩
  | .tmp t :: rest, rs, hrs, s, H, K, hr, hv => by
    simp only [trRes, Option.map_eq_some_iff] at hrs
    obtain ⟨rs', h1, rfl⟩ := hrs
    obtain ⟨vs, ds, e1, e2, e3⟩ := vcRes_sound rest rs' h1 s H _ hr hv
    refine ⟨a.tmps.getD t undef :: vs, s t :: ds, ?_, .cons (hr.slots t) e2, e3⟩
    have q : (resStep a.tmps (.tmp t)).run P w = .ok (a.tmps.getD t undef) w := rfl
    simp only [List.mapM_cons, Sem.run_bind, q, e1, Sem.run_pure, Result.andThen_ok]
  | .cell t ty :: rest, rs, hrs, s, H, K, hr, hv => by
    simp only [trRes] at hrs
    split at hrs
    · rename_i i d rs' h1 h2 h3
      split at hrs
      · rename_i hc
        simp only [Option.some.injEq] at hrs; subst hrs
        simp only [vcRes] at hv
        have hs := hr.slots t
        generalize hd : s t = dd at hv
        simp only at hs
        rw [hd] at hs
        split at hv
        · rename_i id off
          split at hv
          · rename_i e ys hH
            obtain ⟨hn, hv⟩ := hv
            obtain ⟨vs, ds, e1, e2, e3⟩ := vcRes_sound rest rs' h3 s H _ hr hv
            generalize he : a.tmps.getD t undef = v at hs
            cases hs with
            | ptr _ _ b ob hob hk hver hκ =>
              obtain ⟨b', cs, o1, o2, o3, o4, o5, o6⟩ := hr.hp.objs id _ hH
              rw [hκ] at o1
              have hbb : b = b' := by injection o1 with q; injection q with q; injection q
              subst hbb
              have hcell : ∀ j, j < i.size → w.cell? ((⟨b, off, none⟩ : Addr).add j) = some (cs.getD (off + j) undef) := by
                intro j hj
                rw [Addr.add_lit]
                have : off + j < cs.size := by omega
                simp [World.cell?, o2, this, Array.getD]
              have hrun := run_loadVar_at (P := P) (w := w) (vs := fun j => cs.getD (off + j) undef) h1 ⟨d, h2, isAgg_spec d⟩ (agg_cond hc) hcell
              refine ⟨_ :: vs, _ :: ds, ?_, .cons (RdV.mk (vs := fun j => cs.getD (off + j) undef) (n := i.size) (by simp; omega) (agg_cond hc) (fun z hz => ?_) (fun k hk => ?_)) e2, e3⟩
              · have q : (resStep a.tmps (.cell t ty)).run P w = .ok (if isAggD d then .agg ((List.range i.size).map fun j => cs.getD (off + j) undef).toArray else cs.getD (off + 0) undef) w := by
                  simp only [resStep, Sem.run_bind, he, asAddr, Sem.run_pure, Result.andThen_ok, hrun]
                simp only [List.mapM_cons, Sem.run_bind, q, e1, Sem.run_pure, Result.andThen_ok]
              · exact o5 z (List.mem_of_mem_drop (List.mem_of_mem_take hz))
              · simp only [List.length_take, List.length_drop] at hk
                rw [List.getElem_take, List.getElem_drop]; exact o4 (off + k) (by omega)
          · exact hv.elim
        · exact hv.elim
      · cases hrs
    · cases hrs
def resD : List D → D
  | [d] => d
  | ds => .tup ds
theorem RdL.resD {c : Conc} {H : List O} {ds : List D} {vs : List Value} (h : RdL c H ds vs) : RdV c H (DL.resD ds) (if h : vs.toArray.size = 1 then vs.toArray[0] else .tuple vs.toArray) := by
  have tup : ∀ {ds : List D} {vs : List Value}, RdL c H ds vs → RdV c H (.tup ds) (.tuple vs.toArray) := by
    intro ds vs h
    refine .tup ds _ (by simpa using h.length) ?_
    have key : ∀ {ds : List D} {vs : List Value}, RdL c H ds vs → ∀ i (hi : i < ds.length), RdV c H (ds[i]'hi) (vs.getD i undef) := by
      intro ds vs h
      induction h with
      | nil => intro i hi; simp at hi
      | cons h1 _ ih =>
        intro i hi
        cases i with
        | zero => exact h1
        | succ i => exact ih i (by simpa using hi)
    intro i hi
    have := key h i hi
    simpa [Array.getD_eq_getD_getElem?, List.getD_eq_getElem?_getD] using this
  cases h with
  | nil => exact tup .nil
  | cons h1 h2 =>
    cases h2 with
    | nil => exact h1
    | cons h3 h4 => exact tup (.cons h1 (.cons h3 h4))
theorem CallA.of_vc (hm : P.follows .mixedOrders = true) {f : FuncId} {fn : Func} {cd : Code} {h : Hints} {d : DC} {rs : List RV} {ds : List D} {H : List O} {Q : D → List O → Prop} (hf : P.funcs[f]? = some fn) (hname : (fn.name == "runtime.NumGoroutine") = false) (hb : fn.body = some cd)
    (hn : ds.length ≤ fn.ntmps) (htr : trCode P fn.ntmps h cd = some d) (hres : trRes P fn.results.toList = some rs)
    (hv : vc (CallA P G) G d (args0 ds) H fun x s' H' => match x with
      | .normal => vcRes rs s' H' fun ds' => Q (resD ds') H'
      | .ret => vcRes rs s' H' fun ds' => Q (resD ds') H'
      | _ => False) : CallA P G f ds H Q := by
  refine .enter hf hname hb hn ((trCode_sound hm cd d htr _ _ _ hv).mono ?_)
  have fin : ∀ σ : St, vcRes rs σ.s σ.H (fun ds' => Q (resD ds') σ.H) → ResA P G fn σ Q := by
    intro σ hq F n c a w hr
    obtain ⟨vs, ds', e1, e2, e3⟩ := vcRes_sound fn.results.toList rs hres σ.s σ.H _ hr hq
    refine ⟨_, resD ds', c, σ.H, ?_, hr.hp, Ext.refl _ _, e2.resD, e3⟩
    have q : results fn a.tmps = (do let vs ← fn.results.mapM (resStep a.tmps); pure (if h : vs.size = 1 then vs[0] else .tuple vs)) := by
      unfold results
      congr 1
    rw [q, Array.mapM_eq_mapM_toList]
    simp only [Sem.run_bind, Sem.run_map, e1, Result.andThen_ok, Sem.run_pure]
  intro x σ hq
  cases x <;> first | exact fin σ hq | exact hq.elim
end
end Go.DL
set_option linter.unusedVariables false
set_option linter.unusedSimpArgs false
namespace Go.DL
open Go
abbrev CAt := FuncId → List D → List O → (D → List O → Prop) → Prop
@[reducible] def dI (n : Int) : D := .lit (.int .i64 n)
@[reducible] def dB (b : Bool) : D := .lit (.bool b)
@[reducible] def dS (s : ByteArray) : D := .lit (.string s)
theorem val_s (G : Nat → D) (s : Nat → D) (t : Nat) : X.val G s (.s t) = s t := rfl
theorem val_c (G : Nat → D) (s : Nat → D) (d : D) : X.val G s (.c d) = d := rfl
theorem val_g (G : Nat → D) (s : Nat → D) (n : Nat) : X.val G s (.g n) = G n := rfl
theorem put_some (s : Nat → D) (i : Nat) (d : D) : DL.put s (some i) d = upd s i d := rfl
theorem put_none (s : Nat → D) (d : D) : DL.put s none d = s := rfl
theorem upd_app (s : Nat → D) (i : Nat) (d : D) (j : Nat) : upd s i d j = if j = i then d else s j := rfl
theorem args0_nil (j : Nat) : args0 [] j = .lit undef := rfl
theorem args0_zero (d : D) (ds : List D) : args0 (d :: ds) 0 = d := rfl
theorem args0_succ (d : D) (ds : List D) (j : Nat) : args0 (d :: ds) (j + 1) = args0 ds j := by
  simp only [args0, List.length_cons, Nat.add_lt_add_iff_right, List.getElem_cons_succ]
inductive Ph.{u} {α : Sort u} (k : α) : Type | mk
def onB (d : D) (A B : Prop) (_w : Ph A := .mk) (_v : Ph B := .mk) : Prop := match d with
  | .lit (.bool t) => (t = true → A) ∧ (t = false → B)
  | _ => False
theorem onB_t (A B : Prop) : onB (.lit (.bool true)) A B = A := by simp [onB]
theorem onB_f (A B : Prop) : onB (.lit (.bool false)) A B = B := by simp [onB]
theorem onB_i {t : Bool} {A B : Prop} (h : t = true → A) (k : t = false → B) : onB (.lit (.bool t)) A B := ⟨h, k⟩
@[congr] theorem onB_congr {d d' : D} (A B : Prop) (h : d = d') : onB d A B = onB d' A B := by rw [h]
def onG (d : D) (b : Bool) (A B C : Prop) (_w : Ph A := .mk) (_v : Ph B := .mk) (_u : Ph C := .mk) : Prop := match d with
  | .lit (.bool x) => (x = b → A) ∧ (x = !b → B)
  | .lit (.tuple ⟨[]⟩) => C
  | _ => False
theorem onG_tt (A B C : Prop) : onG (.lit (.bool true)) true A B C = A := by simp [onG]
theorem onG_tf (A B C : Prop) : onG (.lit (.bool true)) false A B C = B := by simp [onG]
theorem onG_ft (A B C : Prop) : onG (.lit (.bool false)) true A B C = B := by simp [onG]
theorem onG_ff (A B C : Prop) : onG (.lit (.bool false)) false A B C = A := by simp [onG]
theorem onG_u (b : Bool) (A B C : Prop) : onG (.lit undef) b A B C = C := rfl
theorem onG_i {x b : Bool} {A B C : Prop} (h : x = b → A) (k : x = !b → B) : onG (.lit (.bool x)) b A B C := ⟨h, k⟩
@[congr] theorem onG_congr {d d' : D} (b : Bool) (A B C : Prop) (h : d = d') : onG d b A B C = onG d' b A B C := by rw [h]
def onBin (op : BinOp) (x y : D) (K : D → Prop) (_w : Ph K := .mk) : Prop := match x, y with
  | .lit u, .lit v => match binL op u v with
    | some r => K (.lit r)
    | none => False
  | _, _ => False
@[congr] theorem onBin_congr {x x' y y' : D} (op : BinOp) (K : D → Prop) (h : x = x') (k : y = y') : onBin op x y K = onBin op x' y' K := by rw [h, k]
section
variable (K : D → Prop) (k : IntKind) (a b : Int) (s t : ByteArray)
theorem bin_add : onBin .add (.lit (.int k a)) (.lit (.int k b)) K = K (.lit (.int k (k.wrap (a + b)))) := by simp [onBin, binL]
theorem bin_sub : onBin .sub (.lit (.int k a)) (.lit (.int k b)) K = K (.lit (.int k (k.wrap (a - b)))) := by simp [onBin, binL]
theorem bin_mul : onBin .mul (.lit (.int k a)) (.lit (.int k b)) K = K (.lit (.int k (k.wrap (a * b)))) := by simp [onBin, binL]
theorem bin_eql : onBin .eql (.lit (.int k a)) (.lit (.int k b)) K = K (.lit (.bool (a == b))) := by simp [onBin, binL]
theorem bin_neq : onBin .neq (.lit (.int k a)) (.lit (.int k b)) K = K (.lit (.bool (a != b))) := by simp [onBin, binL]
theorem bin_lss : onBin .lss (.lit (.int k a)) (.lit (.int k b)) K = K (.lit (.bool (decide (a < b)))) := by simp [onBin, binL]
theorem bin_leq : onBin .leq (.lit (.int k a)) (.lit (.int k b)) K = K (.lit (.bool (decide (a ≤ b)))) := by simp [onBin, binL]
theorem bin_gtr : onBin .gtr (.lit (.int k a)) (.lit (.int k b)) K = K (.lit (.bool (decide (a > b)))) := by simp [onBin, binL]
theorem bin_geq : onBin .geq (.lit (.int k a)) (.lit (.int k b)) K = K (.lit (.bool (decide (a ≥ b)))) := by simp [onBin, binL]
theorem bin_quo {b : Int} (h : b ≠ 0) : onBin .quo (.lit (.int k a)) (.lit (.int k b)) K = K (.lit (.int k (k.wrap (a.tdiv b)))) := by simp [onBin, binL, h]
theorem bin_rem {b : Int} (h : b ≠ 0) : onBin .rem (.lit (.int k a)) (.lit (.int k b)) K = K (.lit (.int k (a.tmod b))) := by simp [onBin, binL, h]
theorem bin_seql : onBin .eql (.lit (.string s)) (.lit (.string t)) K = K (.lit (.bool (s.toList == t.toList))) := by simp [onBin, binL]
theorem bin_sneq : onBin .neq (.lit (.string s)) (.lit (.string t)) K = K (.lit (.bool !(s.toList == t.toList))) := by simp [onBin, binL]
theorem bin_sadd (h : s.size + t.size ≤ 9223372036854775807) : onBin .add (.lit (.string s)) (.lit (.string t)) K = K (.lit (.string (s ++ t))) := by simp [onBin, binL, h]
theorem bin_slss : onBin .lss (.lit (.string s)) (.lit (.string t)) K = K (.lit (.bool (Op.bytesLess s.toList t.toList))) := by simp [onBin, binL]
end
def onEqb (op : BinOp) (x y : D) (K : D → Prop) (_w : Ph K := .mk) : Prop := match boolD op x y with
  | some d => K d
  | none => False
@[congr] theorem onEqb_congr {x x' y y' : D} (op : BinOp) (K : D → Prop) (h : x = x') (k : y = y') : onEqb op x y K = onEqb op x' y' K := by rw [h, k]
theorem eqb_eql (K : D → Prop) (a b : Bool) : onEqb .eql (.lit (.bool a)) (.lit (.bool b)) K = K (.lit (.bool (a == b))) := rfl
theorem eqb_neq (K : D → Prop) (a b : Bool) : onEqb .neq (.lit (.bool a)) (.lit (.bool b)) K = K (.lit (.bool !(a == b))) := rfl
def onEqn (op : BinOp) (x y : D) (K : D → Prop) (_w : Ph K := .mk) : Prop := match nilD op x y with
  | some d => K d
  | none => False
@[congr] theorem onEqn_congr {x x' y y' : D} (op : BinOp) (K : D → Prop) (h : x = x') (k : y = y') : onEqn op x y K = onEqn op x' y' K := by rw [h, k]
theorem eqn_eql (K : D → Prop) : onEqn .eql (.lit .nilIface) (.lit .nilIface) K = K (.lit (.bool true)) := rfl
theorem eqn_neq (K : D → Prop) : onEqn .neq (.lit .nilIface) (.lit .nilIface) K = K (.lit (.bool !true)) := rfl
theorem eqn_eql_if (K : D → Prop) (t : TypeId) (v : Value) : onEqn .eql (.lit (.iface t v)) (.lit .nilIface) K = K (.lit (.bool false)) := rfl
theorem eqn_neq_if (K : D → Prop) (t : TypeId) (v : Value) : onEqn .neq (.lit (.iface t v)) (.lit .nilIface) K = K (.lit (.bool !false)) := rfl
theorem eqn_eql_nn (K : D → Prop) : onEqn .eql .nn (.lit .nilIface) K = K (.lit (.bool false)) := rfl
theorem eqn_neq_nn (K : D → Prop) : onEqn .neq .nn (.lit .nilIface) K = K (.lit (.bool !false)) := rfl
def onUn (op : UnOp) (x : D) (K : D → Prop) (_w : Ph K := .mk) : Prop := match unD op x with
  | some d => K d
  | none => False
@[congr] theorem onUn_congr {x x' : D} (op : UnOp) (K : D → Prop) (h : x = x') : onUn op x K = onUn op x' K := by rw [h]
theorem un_neg (K : D → Prop) (k : IntKind) (a : Int) : onUn .neg (.lit (.int k a)) K = K (.lit (.int k (k.wrap (0 - a)))) := rfl
theorem un_not (K : D → Prop) (b : Bool) : onUn .not (.lit (.bool b)) K = K (.lit (.bool !b)) := rfl
def onConv (k : IntKind) (x : D) (K : D → Prop) (_w : Ph K := .mk) : Prop := match x with
  | .lit (.int _ n) => K (.lit (.int k (k.wrap n)))
  | _ => False
@[congr] theorem onConv_congr {x x' : D} (k : IntKind) (K : D → Prop) (h : x = x') : onConv k x K = onConv k x' K := by rw [h]
theorem conv_int (K : D → Prop) (k k0 : IntKind) (a : Int) : onConv k (.lit (.int k0 a)) K = K (.lit (.int k (k.wrap a))) := rfl
def onBox (o : Option O) (K : TypeId → List D → Prop) (_w : Ph K := .mk) : Prop := match o with
  | some (.box e ys) => K e ys
  | _ => False
@[congr] theorem onBox_congr {o o' : Option O} (K : TypeId → List D → Prop) (h : o = o') : onBox o K = onBox o' K := by rw [h]
theorem onBox_s (e : TypeId) (ys : List D) (K : TypeId → List D → Prop) : onBox (some (.box e ys)) K = K e ys := rfl
def onRow (o : Option O) (K : Bool → Nat → TypeId → Nat → List D → Prop) (_w : Ph K := .mk) : Prop := match o with
  | some (.row x v e sz xs) => K x v e sz xs
  | _ => False
@[congr] theorem onRow_congr {o o' : Option O} (K : Bool → Nat → TypeId → Nat → List D → Prop) (h : o = o') : onRow o K = onRow o' K := by rw [h]
theorem onRow_s (x : Bool) (v : Nat) (e : TypeId) (sz : Nat) (xs : List D) (K : Bool → Nat → TypeId → Nat → List D → Prop) : onRow (some (.row x v e sz xs)) K = K x v e sz xs := rfl
def onIdx (xs : List D) (n : Int) (K : D → Prop) (_w : Ph K := .mk) : Prop := 0 ≤ n ∧ ∃ y, xs[n.toNat]? = some y ∧ K y
@[congr] theorem onIdx_congr {xs xs' : List D} {n n' : Int} (K : D → Prop) (h : xs = xs') (k : n = n') : onIdx xs n K = onIdx xs' n' K := by rw [h, k]
theorem onIdx_i {xs : List D} {n : Int} {K : D → Prop} {y : D} (h0 : 0 ≤ n) (h : xs[n.toNat]? = some y) (k : K y) : onIdx xs n K := ⟨h0, y, h, k⟩
theorem onIdx_zero (x : D) (xs : List D) (K : D → Prop) : onIdx (x :: xs) 0 K = K x := by simp [onIdx]
def onLoad (n : Nat) (agg : Bool) (x : D) (H : List O) (K : D → Prop) (_w : Ph K := .mk) : Prop := match x with
  | .el ys => n ≤ ys.length ∧ K (mkD agg (ys.take n))
  | .ptr id off => onBox H[id]? fun _ ys => off + n ≤ ys.length ∧ K (mkD agg ((ys.drop off).take n))
  | .rel id ver j k => onRow H[id]? fun _ v _ sz xs => v = ver ∧ k + n ≤ sz ∧ ∃ y, xs[j]? = some y ∧ K (mkD agg ((y.leaves.drop k).take n))
  | _ => False
@[congr] theorem onLoad_congr {x x' : D} (n : Nat) (agg : Bool) (H : List O) (K : D → Prop) (h : x = x') : onLoad n agg x H K = onLoad n agg x' H K := by rw [h]
theorem load_el (n : Nat) (agg : Bool) (ys : List D) (H : List O) (K : D → Prop) : onLoad n agg (.el ys) H K = (n ≤ ys.length ∧ K (mkD agg (ys.take n))) := rfl
theorem load_ptr (n : Nat) (agg : Bool) (id off : Nat) (H : List O) (K : D → Prop) : onLoad n agg (.ptr id off) H K = onBox H[id]? fun _ ys => off + n ≤ ys.length ∧ K (mkD agg ((ys.drop off).take n)) := rfl
theorem load_rel (n : Nat) (agg : Bool) (id ver j k : Nat) (H : List O) (K : D → Prop) : onLoad n agg (.rel id ver j k) H K = onRow H[id]? fun _ v _ sz xs => v = ver ∧ k + n ≤ sz ∧ ∃ y, xs[j]? = some y ∧ K (mkD agg ((y.leaves.drop k).take n)) := rfl
def onStore (n : Nat) (x : D) (ls : List D) (H : List O) (K : List O → Prop) (_w : Ph K := .mk) : Prop := match x with
  | .ptr id off => onBox H[id]? fun e ys => off + n ≤ ys.length ∧ K (H.set id (.box e (ys.take off ++ ls ++ ys.drop (off + n))))
  | .rel id ver j k => onRow H[id]? fun x v e sz xs => x = true ∧ v = ver ∧ k + n ≤ sz ∧ ∃ z, xs[j]? = some z ∧ K (H.set id (.row true v e sz (xs.set j (newElem z (z.leaves.take k ++ ls ++ z.leaves.drop (k + n))))))
  | _ => False
@[congr] theorem onStore_congr {x x' : D} {ls ls' : List D} (n : Nat) (H : List O) (K : List O → Prop) (h : x = x') (k : ls = ls') : onStore n x ls H K = onStore n x' ls' H K := by rw [h, k]
theorem store_ptr (n : Nat) (id off : Nat) (ls : List D) (H : List O) (K : List O → Prop) : onStore n (.ptr id off) ls H K = onBox H[id]? fun e ys => off + n ≤ ys.length ∧ K (H.set id (.box e (ys.take off ++ ls ++ ys.drop (off + n)))) := rfl
theorem store_rel (n : Nat) (id ver j k : Nat) (ls : List D) (H : List O) (K : List O → Prop) : onStore n (.rel id ver j k) ls H K = onRow H[id]? fun x v e sz xs => x = true ∧ v = ver ∧ k + n ≤ sz ∧ ∃ z, xs[j]? = some z ∧ K (H.set id (.row true v e sz (xs.set j (newElem z (z.leaves.take k ++ ls ++ z.leaves.drop (k + n)))))) := rfl
def onNil (x : D) (K : D → Prop) (_w : Ph K := .mk) : Prop := match x with
  | .ptr id off => K (.ptr id off)
  | .rel id ver j k => K (.rel id ver j k)
  | .el ys => K (.el ys)
  | .fn f caps => K (.fn f caps)
  | _ => False
@[congr] theorem onNil_congr {x x' : D} (K : D → Prop) (h : x = x') : onNil x K = onNil x' K := by rw [h]
theorem nil_ptr (K : D → Prop) (id off : Nat) : onNil (.ptr id off) K = K (.ptr id off) := rfl
theorem nil_rel (K : D → Prop) (id ver j k : Nat) : onNil (.rel id ver j k) K = K (.rel id ver j k) := rfl
theorem nil_el (K : D → Prop) (ys : List D) : onNil (.el ys) K = K (.el ys) := rfl
theorem nil_fn (K : D → Prop) (f : FuncId) (caps : List D) : onNil (.fn f caps) K = K (.fn f caps) := rfl
def onFad (off : Nat) (x : D) (K : D → Prop) (_w : Ph K := .mk) : Prop := match x with
  | .ptr id o => K (.ptr id (o + off))
  | .el ys => K (.el (ys.drop off))
  | .rel id ver j k => K (.rel id ver j (k + off))
  | _ => False
@[congr] theorem onFad_congr {x x' : D} (off : Nat) (K : D → Prop) (h : x = x') : onFad off x K = onFad off x' K := by rw [h]
theorem fad_ptr (K : D → Prop) (off id o : Nat) : onFad off (.ptr id o) K = K (.ptr id (o + off)) := rfl
theorem fad_el (K : D → Prop) (off : Nat) (ys : List D) : onFad off (.el ys) K = K (.el (ys.drop off)) := rfl
theorem fad_rel (K : D → Prop) (off id ver j k : Nat) : onFad off (.rel id ver j k) K = K (.rel id ver j (k + off)) := rfl
def onFld (off n : Nat) (agg : Bool) (x : D) (K : D → Prop) (_w : Ph K := .mk) : Prop := match x with
  | .agg ys => off + n ≤ ys.length ∧ K (mkD agg ((ys.drop off).take n))
  | _ => False
@[congr] theorem onFld_congr {x x' : D} (off n : Nat) (agg : Bool) (K : D → Prop) (h : x = x') : onFld off n agg x K = onFld off n agg x' K := by rw [h]
theorem fld_agg (K : D → Prop) (off n : Nat) (agg : Bool) (ys : List D) : onFld off n agg (.agg ys) K = (off + n ≤ ys.length ∧ K (mkD agg ((ys.drop off).take n))) := rfl
def onIad (sz : Nat) (x i : D) (H : List O) (K : D → Prop) (_w : Ph K := .mk) : Prop := match x, i with
  | .sl xs, .lit (.int _ n) => onIdx xs n fun y => y.leaves.length = sz ∧ K (.el y.leaves)
  | .row id ver, .lit (.int _ n) => onRow H[id]? fun _ v _ sz' xs => v = ver ∧ sz' = sz ∧ 0 ≤ n ∧ n < xs.length ∧ K (.rel id ver n.toNat 0)
  | _, _ => False
@[congr] theorem onIad_congr {x x' i i' : D} (sz : Nat) (H : List O) (K : D → Prop) (h : x = x') (k : i = i') : onIad sz x i H K = onIad sz x' i' H K := by rw [h, k]
theorem iad_sl (sz : Nat) (xs : List D) (k : IntKind) (n : Int) (H : List O) (K : D → Prop) : onIad sz (.sl xs) (.lit (.int k n)) H K = onIdx xs n fun y => y.leaves.length = sz ∧ K (.el y.leaves) := rfl
theorem iad_row (sz id ver : Nat) (k : IntKind) (n : Int) (H : List O) (K : D → Prop) : onIad sz (.row id ver) (.lit (.int k n)) H K = onRow H[id]? fun _ v _ sz' xs => v = ver ∧ sz' = sz ∧ 0 ≤ n ∧ n < xs.length ∧ K (.rel id ver n.toNat 0) := rfl
def onIaa (sz m : Nat) (x i : D) (K : D → Prop) (_w : Ph K := .mk) : Prop := match x, i with
  | .el ys, .lit (.int _ k) => 0 ≤ k ∧ k < m ∧ K (.el (ys.drop (k.toNat * sz)))
  | .ptr id off, .lit (.int _ k) => 0 ≤ k ∧ k < m ∧ K (.ptr id (off + k.toNat * sz))
  | _, _ => False
@[congr] theorem onIaa_congr {x x' i i' : D} (sz m : Nat) (K : D → Prop) (h : x = x') (k : i = i') : onIaa sz m x i K = onIaa sz m x' i' K := by rw [h, k]
theorem iaa_el (sz m : Nat) (ys : List D) (k : IntKind) (n : Int) (K : D → Prop) : onIaa sz m (.el ys) (.lit (.int k n)) K = (0 ≤ n ∧ n < m ∧ K (.el (ys.drop (n.toNat * sz)))) := rfl
theorem iaa_ptr (sz m id off : Nat) (k : IntKind) (n : Int) (K : D → Prop) : onIaa sz m (.ptr id off) (.lit (.int k n)) K = (0 ≤ n ∧ n < m ∧ K (.ptr id (off + n.toNat * sz))) := rfl
def onByte (b : ByteArray) (n : Int) (K : UInt8 → Prop) (_w : Ph K := .mk) : Prop := 0 ≤ n ∧ ∃ u, b[n.toNat]? = some u ∧ K u
@[congr] theorem onByte_congr {b b' : ByteArray} {n n' : Int} (K : UInt8 → Prop) (h : b = b') (k : n = n') : onByte b n K = onByte b' n' K := by rw [h, k]
theorem onByte_i {b : ByteArray} {n : Int} {K : UInt8 → Prop} {u : UInt8} (h0 : 0 ≤ n) (h : b[n.toNat]? = some u) (k : K u) : onByte b n K := ⟨h0, u, h, k⟩
def onIdxS (x i : D) (K : D → Prop) (_w : Ph K := .mk) : Prop := match x, i with
  | .lit (.string b), .lit (.int _ n) => onByte b n fun u => K (.lit (.int .u8 u.toNat))
  | _, _ => False
@[congr] theorem onIdxS_congr {x x' i i' : D} (K : D → Prop) (h : x = x') (k : i = i') : onIdxS x i K = onIdxS x' i' K := by rw [h, k]
theorem idxS_s (b : ByteArray) (k : IntKind) (n : Int) (K : D → Prop) : onIdxS (.lit (.string b)) (.lit (.int k n)) K = onByte b n fun u => K (.lit (.int .u8 u.toNat)) := rfl
def onExt (x : D) (i : Nat) (K : D → Prop) (_w : Ph K := .mk) : Prop := match x with
  | .tup ds => ∃ d, ds[i]? = some d ∧ K d
  | _ => False
@[congr] theorem onExt_congr {x x' : D} (i : Nat) (K : D → Prop) (h : x = x') : onExt x i K = onExt x' i K := by rw [h]
theorem ext_zero (d : D) (ds : List D) (K : D → Prop) : onExt (.tup (d :: ds)) 0 K = K d := by simp [onExt]
theorem ext_succ (d : D) (ds : List D) (i : Nat) (K : D → Prop) : onExt (.tup (d :: ds)) (i + 1) K = onExt (.tup ds) i K := by simp [onExt]
def onCall (CA : CAt) (f : D) (args : List D) (H : List O) (K : D → List O → Prop) (_w : Ph K := .mk) : Prop := match f with
  | .fn f caps => CA f (args ++ caps) H K
  | _ => False
@[congr] theorem onCall_congr {f f' : D} {args args' : List D} (CA : CAt) (H : List O) (K : D → List O → Prop) (h : f = f') (k : args = args') : onCall CA f args H K = onCall CA f' args' H K := by rw [h, k]
def Call (CA : CAt) (f : FuncId) (args : List D) (H : List O) (K : D → List O → Prop) (_w : Ph K := .mk) : Prop := CA f args H K
@[congr] theorem Call_congr {args args' : List D} {H H' : List O} (CA : CAt) (f : FuncId) (K : D → List O → Prop) (k : args = args') (h : H = H') : Call CA f args H K = Call CA f args' H' K := by rw [k, h]
theorem call_fn (CA : CAt) (f : FuncId) (caps args : List D) (H : List O) (K : D → List O → Prop) : onCall CA (.fn f caps) args H K = Call CA f (args ++ caps) H K := rfl
def onLenS (x : D) (K : D → Prop) (_w : Ph K := .mk) : Prop := match x with
  | .lit (.string b) => K (.lit (.int .i64 b.size))
  | _ => False
@[congr] theorem onLenS_congr {x x' : D} (K : D → Prop) (h : x = x') : onLenS x K = onLenS x' K := by rw [h]
theorem lenS_s (b : ByteArray) (K : D → Prop) : onLenS (.lit (.string b)) K = K (.lit (.int .i64 b.size)) := rfl
def onLenL (x : D) (H : List O) (K : D → Prop) (_w : Ph K := .mk) : Prop := match x with
  | .lit (.slice none 0 0) => K (.lit (.int .i64 0))
  | .sl xs => K (.lit (.int .i64 xs.length))
  | .row id ver => onRow H[id]? fun _ v _ _ xs => v = ver ∧ K (.lit (.int .i64 xs.length))
  | _ => False
@[congr] theorem onLenL_congr {x x' : D} (H : List O) (K : D → Prop) (h : x = x') : onLenL x H K = onLenL x' H K := by rw [h]
theorem lenL_nil (H : List O) (K : D → Prop) : onLenL (.lit (.slice none 0 0)) H K = K (.lit (.int .i64 0)) := rfl
theorem lenL_sl (xs : List D) (H : List O) (K : D → Prop) : onLenL (.sl xs) H K = K (.lit (.int .i64 xs.length)) := rfl
theorem lenL_row (id ver : Nat) (H : List O) (K : D → Prop) : onLenL (.row id ver) H K = onRow H[id]? fun _ v _ _ xs => v = ver ∧ K (.lit (.int .i64 xs.length)) := rfl
def onApp (e sz bytes : Nat) (x y : D) (H : List O) (K : D → List O → Prop) (_w : Ph K := .mk) : Prop := match x, y with
  | .row id ver, .sl ys => onRow H[id]? fun b v e' sz' xs => v = ver ∧ e' = e ∧ sz' = sz ∧ (∀ y ∈ ys, y.leaves.length = sz) ∧ (xs.length + ys.length) * bytes ≤ 140737488355328 ∧ K (.row id (ver + 1)) (H.set id (.row b (ver + 1) e sz (xs ++ ys)))
  | .lit (.slice none 0 0), .sl ys => (∀ y ∈ ys, y.leaves.length = sz) ∧ ys.length * bytes ≤ 140737488355328 ∧ K (.row H.length 1) (H ++ [.row true 1 e sz ys])
  | _, _ => False
@[congr] theorem onApp_congr {x x' y y' : D} (e sz bytes : Nat) (H : List O) (K : D → List O → Prop) (h : x = x') (k : y = y') : onApp e sz bytes x y H K = onApp e sz bytes x' y' H K := by rw [h, k]
theorem app_row (e sz bytes id ver : Nat) (ys : List D) (H : List O) (K : D → List O → Prop) : onApp e sz bytes (.row id ver) (.sl ys) H K = onRow H[id]? fun b v e' sz' xs => v = ver ∧ e' = e ∧ sz' = sz ∧ (∀ y ∈ ys, y.leaves.length = sz) ∧ (xs.length + ys.length) * bytes ≤ 140737488355328 ∧ K (.row id (ver + 1)) (H.set id (.row b (ver + 1) e sz (xs ++ ys))) := rfl
theorem app_nil (e sz bytes : Nat) (ys : List D) (H : List O) (K : D → List O → Prop) : onApp e sz bytes (.lit (.slice none 0 0)) (.sl ys) H K = ((∀ y ∈ ys, y.leaves.length = sz) ∧ ys.length * bytes ≤ 140737488355328 ∧ K (.row H.length 1) (H ++ [.row true 1 e sz ys])) := rfl
def onAppS (e : TypeId) (x y : D) (H : List O) (K : D → List O → Prop) (_w : Ph K := .mk) : Prop := match x, y with
  | .row id ver, .lit (.string b) => onRow H[id]? fun x v e' sz' xs => x = true ∧ v = ver ∧ e' = e ∧ sz' = 1 ∧ xs.length + b.size ≤ 140737488355328 ∧ K (.row id (ver + 1)) (H.set id (.row true (ver + 1) e 1 (xs ++ b.data.toList.map fun u => .lit (.int .u8 u.toNat))))
  | .lit (.slice none 0 0), .lit (.string b) => b.size ≤ 140737488355328 ∧ K (.row H.length 1) (H ++ [.row true 1 e 1 (b.data.toList.map fun u => .lit (.int .u8 u.toNat))])
  | _, _ => False
@[congr] theorem onAppS_congr {x x' y y' : D} (e : TypeId) (H : List O) (K : D → List O → Prop) (h : x = x') (k : y = y') : onAppS e x y H K = onAppS e x' y' H K := by rw [h, k]
theorem appS_row (e : TypeId) (id ver : Nat) (b : ByteArray) (H : List O) (K : D → List O → Prop) : onAppS e (.row id ver) (.lit (.string b)) H K = onRow H[id]? fun x v e' sz' xs => x = true ∧ v = ver ∧ e' = e ∧ sz' = 1 ∧ xs.length + b.size ≤ 140737488355328 ∧ K (.row id (ver + 1)) (H.set id (.row true (ver + 1) e 1 (xs ++ b.data.toList.map fun u => .lit (.int .u8 u.toNat)))) := rfl
theorem appS_nil (e : TypeId) (b : ByteArray) (H : List O) (K : D → List O → Prop) : onAppS e (.lit (.slice none 0 0)) (.lit (.string b)) H K = (b.size ≤ 140737488355328 ∧ K (.row H.length 1) (H ++ [.row true 1 e 1 (b.data.toList.map fun u => .lit (.int .u8 u.toNat))])) := rfl
def bnd (d : Int) : Option D → Option Int
  | none => some d
  | some (.lit (.int _ n)) => some n
  | _ => none
theorem boundOf_eq (s : Nat → D) (G : Nat → D) (d : Nat) (x : Option X) : boundOf s G d x = bnd d (x.map (X.val G s)) := by
  cases x with
  | none => rfl
  | some x =>
    simp only [boundOf, Option.map_some]
    generalize x.val G s = d'
    cases d' with
    | lit v => cases v <;> rfl
    | _ => rfl
def onSlcS (x : D) (lo hi : Option D) (K : D → Prop) (_w : Ph K := .mk) : Prop := match x with
  | .lit (.string b) => ∃ l h : Int, bnd 0 lo = some l ∧ bnd b.size hi = some h ∧ 0 ≤ l ∧ l ≤ h ∧ h ≤ b.size ∧ K (.lit (.string (b.extract l.toNat h.toNat)))
  | _ => False
@[congr] theorem onSlcS_congr {x x' : D} {lo lo' hi hi' : Option D} (K : D → Prop) (h : x = x') (k : lo = lo') (l : hi = hi') : onSlcS x lo hi K = onSlcS x' lo' hi' K := by rw [h, k, l]
theorem slcS_nn (b : ByteArray) (K : D → Prop) : onSlcS (.lit (.string b)) none none K = K (.lit (.string (b.extract 0 b.size))) := by simp [onSlcS, bnd]
theorem slcS_sn (b : ByteArray) (k : IntKind) (l : Int) (K : D → Prop) : onSlcS (.lit (.string b)) (some (.lit (.int k l))) none K = (0 ≤ l ∧ l ≤ b.size ∧ K (.lit (.string (b.extract l.toNat b.size)))) := by simp [onSlcS, bnd]
theorem slcS_ns (b : ByteArray) (k : IntKind) (h : Int) (K : D → Prop) : onSlcS (.lit (.string b)) none (some (.lit (.int k h))) K = (0 ≤ h ∧ h ≤ b.size ∧ K (.lit (.string (b.extract 0 h.toNat)))) := by simp [onSlcS, bnd]
theorem slcS_ss (b : ByteArray) (k k' : IntKind) (l h : Int) (K : D → Prop) : onSlcS (.lit (.string b)) (some (.lit (.int k l))) (some (.lit (.int k' h))) K = (0 ≤ l ∧ l ≤ h ∧ h ≤ b.size ∧ K (.lit (.string (b.extract l.toNat h.toNat)))) := by simp [onSlcS, bnd]
def onSlcL (sz : Nat) (x : D) (lo hi : Option D) (K : D → Prop) (_w : Ph K := .mk) : Prop := match x with
  | .sl xs => ∃ l h : Int, bnd 0 lo = some l ∧ bnd xs.length hi = some h ∧ 0 ≤ l ∧ l ≤ h ∧ h ≤ xs.length ∧ (∀ y ∈ xs, y.leaves.length = sz) ∧ K (.sl ((xs.take h.toNat).drop l.toNat))
  | _ => False
@[congr] theorem onSlcL_congr {x x' : D} {lo lo' hi hi' : Option D} (sz : Nat) (K : D → Prop) (h : x = x') (k : lo = lo') (l : hi = hi') : onSlcL sz x lo hi K = onSlcL sz x' lo' hi' K := by rw [h, k, l]
theorem slcL_nn (sz : Nat) (xs : List D) (K : D → Prop) : onSlcL sz (.sl xs) none none K = ((∀ y ∈ xs, y.leaves.length = sz) ∧ K (.sl xs)) := by simp [onSlcL, bnd]
theorem slcL_sn (sz : Nat) (xs : List D) (k : IntKind) (l : Int) (K : D → Prop) : onSlcL sz (.sl xs) (some (.lit (.int k l))) none K = (0 ≤ l ∧ l ≤ xs.length ∧ (∀ y ∈ xs, y.leaves.length = sz) ∧ K (.sl (xs.drop l.toNat))) := by simp [onSlcL, bnd]
theorem slcL_ns (sz : Nat) (xs : List D) (k : IntKind) (h : Int) (K : D → Prop) : onSlcL sz (.sl xs) none (some (.lit (.int k h))) K = (0 ≤ h ∧ h ≤ xs.length ∧ (∀ y ∈ xs, y.leaves.length = sz) ∧ K (.sl (xs.take h.toNat))) := by simp [onSlcL, bnd]
theorem slcL_ss (sz : Nat) (xs : List D) (k k' : IntKind) (l h : Int) (K : D → Prop) : onSlcL sz (.sl xs) (some (.lit (.int k l))) (some (.lit (.int k' h))) K = (0 ≤ l ∧ l ≤ h ∧ h ≤ xs.length ∧ (∀ y ∈ xs, y.leaves.length = sz) ∧ K (.sl ((xs.take h.toNat).drop l.toNat))) := by simp [onSlcL, bnd]
def onSlcA (n : Nat) (x : D) (K : D → Prop) (_w : Ph K := .mk) : Prop := match x with
  | .el ys => n ≤ ys.length ∧ K (.sl (ys.take n))
  | _ => False
@[congr] theorem onSlcA_congr {x x' : D} (n : Nat) (K : D → Prop) (h : x = x') : onSlcA n x K = onSlcA n x' K := by rw [h]
theorem slcA_el (n : Nat) (ys : List D) (K : D → Prop) : onSlcA n (.el ys) K = (n ≤ ys.length ∧ K (.sl (ys.take n))) := rfl
def onIdxA (sz n : Nat) (agg : Bool) (x i : D) (K : D → Prop) (_w : Ph K := .mk) : Prop := match x, i with
  | .agg ys, .lit (.int _ k) => 0 ≤ k ∧ k < n ∧ k.toNat * sz + sz ≤ ys.length ∧ K (mkD agg ((ys.drop (k.toNat * sz)).take sz))
  | _, _ => False
@[congr] theorem onIdxA_congr {x x' i i' : D} (sz n : Nat) (agg : Bool) (K : D → Prop) (h : x = x') (k : i = i') : onIdxA sz n agg x i K = onIdxA sz n agg x' i' K := by rw [h, k]
theorem idxA_agg (sz n : Nat) (agg : Bool) (ys : List D) (kk : IntKind) (k : Int) (K : D → Prop) : onIdxA sz n agg (.agg ys) (.lit (.int kk k)) K = (0 ≤ k ∧ k < n ∧ k.toNat * sz + sz ≤ ys.length ∧ K (mkD agg ((ys.drop (k.toNat * sz)).take sz))) := rfl
def onMap (o : Option O) (K : Nat → List (Value × D) → Prop) (_w : Ph K := .mk) : Prop := match o with
  | some (.map mv es) => K mv es
  | _ => False
@[congr] theorem onMap_congr {o o' : Option O} (K : Nat → List (Value × D) → Prop) (h : o = o') : onMap o K = onMap o' K := by rw [h]
theorem map_s (mv : Nat) (es : List (Value × D)) (K : Nat → List (Value × D) → Prop) : onMap (some (.map mv es)) K = K mv es := rfl
def onIter (o : Option O) (K : Nat → Nat → List (Value × D) → Option (Value × D) → Prop) (_w : Ph K := .mk) : Prop := match o with
  | some (.iter m mv left cur) => K m mv left cur
  | _ => False
@[congr] theorem onIter_congr {o o' : Option O} (K : Nat → Nat → List (Value × D) → Option (Value × D) → Prop) (h : o = o') : onIter o K = onIter o' K := by rw [h]
theorem iter_s (m mv : Nat) (left : List (Value × D)) (cur : Option (Value × D)) (K : Nat → Nat → List (Value × D) → Option (Value × D) → Prop) : onIter (some (.iter m mv left cur)) K = K m mv left cur := rfl
def onMput (kd : TypeDesc) (x k y : D) (H : List O) (K : D → List O → Prop) (_w : Ph K := .mk) : Prop := match x, k with
  | .mp id, .lit kv => onMap H[id]? fun mv es => MapKept.IsKey kd kv ∧ (∀ p ∈ es, MapKept.IsKey kd p.1) ∧ K (.lit undef) (H.set id (.map (mv + 1) (putE kd kv y es)))
  | _, _ => False
@[congr] theorem onMput_congr {x x' k k' y y' : D} (kd : TypeDesc) (H : List O) (K : D → List O → Prop) (h : x = x') (h' : k = k') (h'' : y = y') : onMput kd x k y H K = onMput kd x' k' y' H K := by rw [h, h', h'']
theorem mput_mp (kd : TypeDesc) (id : Nat) (kv : Value) (y : D) (H : List O) (K : D → List O → Prop) : onMput kd (.mp id) (.lit kv) y H K = onMap H[id]? fun mv es => MapKept.IsKey kd kv ∧ (∀ p ∈ es, MapKept.IsKey kd p.1) ∧ K (.lit undef) (H.set id (.map (mv + 1) (putE kd kv y es))) := rfl
def onMget (kd : TypeDesc) (z : Value) (ok : Bool) (x k : D) (H : List O) (K : D → Prop) (_w : Ph K := .mk) : Prop := match x, k with
  | .mp id, .lit kv => onMap H[id]? fun _ es => MapKept.IsKey kd kv ∧ (∀ p ∈ es, MapKept.IsKey kd p.1) ∧ K (foundD z ok (getE kd kv es))
  | _, _ => False
@[congr] theorem onMget_congr {x x' k k' : D} (kd : TypeDesc) (z : Value) (ok : Bool) (H : List O) (K : D → Prop) (h : x = x') (h' : k = k') : onMget kd z ok x k H K = onMget kd z ok x' k' H K := by rw [h, h']
theorem mget_mp (kd : TypeDesc) (z : Value) (ok : Bool) (id : Nat) (kv : Value) (H : List O) (K : D → Prop) : onMget kd z ok (.mp id) (.lit kv) H K = onMap H[id]? fun _ es => MapKept.IsKey kd kv ∧ (∀ p ∈ es, MapKept.IsKey kd p.1) ∧ K (foundD z ok (getE kd kv es)) := rfl
def onRng (x : D) (H : List O) (K : D → List O → Prop) (_w : Ph K := .mk) : Prop := match x with
  | .mp id => onMap H[id]? fun mv es => K (.it H.length) (H ++ [.iter id mv es none])
  | _ => False
@[congr] theorem onRng_congr {x x' : D} (H : List O) (K : D → List O → Prop) (h : x = x') : onRng x H K = onRng x' H K := by rw [h]
theorem rng_mp (id : Nat) (H : List O) (K : D → List O → Prop) : onRng (.mp id) H K = onMap H[id]? fun mv es => K (.it H.length) (H ++ [.iter id mv es none]) := rfl
def Step (id m mv : Nat) (left : List (Value × D)) (H : List O) (K : D → List O → Prop) (_w : Ph K := .mk) : Prop :=
  (left = [] → K (.tup [.lit (.bool false)]) H) ∧ ∀ i, (h : i < left.length) → K (.tup [.lit (.bool true), .lit (left[i]'h).1, (left[i]'h).2]) (H.set id (.iter m mv (left.eraseIdx i) (some (left[i]'h))))
@[congr] theorem Step_congr {left left' : List (Value × D)} (id m mv : Nat) (H : List O) (K : D → List O → Prop) (h : left = left') : Step id m mv left H K = Step id m mv left' H K := by rw [h]
theorem step_i {id m mv : Nat} {left : List (Value × D)} {H : List O} {K : D → List O → Prop} (h : left = [] → K (.tup [.lit (.bool false)]) H)
    (k : ∀ i, (h : i < left.length) → K (.tup [.lit (.bool true), .lit (left[i]'h).1, (left[i]'h).2]) (H.set id (.iter m mv (left.eraseIdx i) (some (left[i]'h))))) : Step id m mv left H K := ⟨h, k⟩
def onNxt (x : D) (H : List O) (K : D → List O → Prop) (_w : Ph K := .mk) : Prop := match x with
  | .it id => onIter H[id]? fun m mv left _ => onMap H[m]? fun mv' _ => mv = mv' ∧ Step id m mv left H K
  | _ => False
@[congr] theorem onNxt_congr {x x' : D} (H : List O) (K : D → List O → Prop) (h : x = x') : onNxt x H K = onNxt x' H K := by rw [h]
theorem nxt_it (id : Nat) (H : List O) (K : D → List O → Prop) : onNxt (.it id) H K = onIter H[id]? fun m mv left _ => onMap H[m]? fun mv' _ => mv = mv' ∧ Step id m mv left H K := rfl
def onEnt (x : D) (H : List O) (K : D → Prop) (_w : Ph K := .mk) : Prop := match x with
  | .it id => onIter H[id]? fun m mv _ cur => match cur with
    | some (k, d) => onMap H[m]? fun mv' _ => mv = mv' ∧ K (.tup [.lit k, d])
    | none => False
  | _ => False
@[congr] theorem onEnt_congr {x x' : D} (H : List O) (K : D → Prop) (h : x = x') : onEnt x H K = onEnt x' H K := by rw [h]
theorem ent_it (id : Nat) (H : List O) (K : D → Prop) : onEnt (.it id) H K = onIter H[id]? fun m mv _ cur => match cur with
    | some (k, d) => onMap H[m]? fun mv' _ => mv = mv' ∧ K (.tup [.lit k, d])
    | none => False := rfl
def onLenM (x : D) (H : List O) (K : D → Prop) (_w : Ph K := .mk) : Prop := match x with
  | .mp id => onMap H[id]? fun _ es => K (.lit (.int .i64 es.length))
  | _ => False
@[congr] theorem onLenM_congr {x x' : D} (H : List O) (K : D → Prop) (h : x = x') : onLenM x H K = onLenM x' H K := by rw [h]
theorem lenM_mp (id : Nat) (H : List O) (K : D → Prop) : onLenM (.mp id) H K = onMap H[id]? fun _ es => K (.lit (.int .i64 es.length)) := rfl
def onStr (x : D) (K : D → Prop) (_w : Ph K := .mk) : Prop := ∃ bs : List UInt8, x = .sl (bs.map fun b => .lit (.int .u8 b.toNat)) ∧ K (.lit (.string ⟨bs.toArray⟩))
@[congr] theorem onStr_congr {x x' : D} (K : D → Prop) (h : x = x') : onStr x K = onStr x' K := by rw [h]
def frzO (o : Option O) (d : D) (id ver : Nat) (H : List O) : D × List O := match o with
  | some (.row _ v e sz xs) => if ver = v then (.sl xs, H.set id (.row false v e sz xs)) else (d, H)
  | _ => (d, H)
@[congr] theorem frzO_congr {o o' : Option O} (d : D) (id ver : Nat) (H : List O) (h : o = o') : frzO o d id ver H = frzO o' d id ver H := by rw [h]
theorem frzO_s (x : Bool) (v : Nat) (e : TypeId) (sz : Nat) (xs : List D) (d : D) (id : Nat) (H : List O) : frzO (some (.row x v e sz xs)) d id v H = (.sl xs, H.set id (.row false v e sz xs)) := by simp [frzO]
theorem frz_row (id ver : Nat) (H : List O) : frzD (.row id ver) H = frzO H[id]? (.row id ver) id ver H := rfl
theorem frz_nil (H : List O) : frzD (.lit (.slice none 0 0)) H = (.sl [], H) := rfl
theorem frz_int (k : IntKind) (n : Int) (H : List O) : frzD (.lit (.int k n)) H = (.lit (.int k n), H) := rfl
theorem frz_bool (b : Bool) (H : List O) : frzD (.lit (.bool b)) H = (.lit (.bool b), H) := rfl
theorem frz_string (b : ByteArray) (H : List O) : frzD (.lit (.string b)) H = (.lit (.string b), H) := rfl
theorem frz_nilIface (H : List O) : frzD (.lit .nilIface) H = (.lit .nilIface, H) := rfl
theorem frz_undef (H : List O) : frzD (.lit undef) H = (.lit undef, H) := rfl
theorem frz_sl (xs : List D) (H : List O) : frzD (.sl xs) H = (.sl xs, H) := rfl
theorem frz_agg (xs : List D) (H : List O) : frzD (.agg xs) H = (.agg xs, H) := rfl
theorem frz_ptr (id off : Nat) (H : List O) : frzD (.ptr id off) H = (.ptr id off, H) := rfl
theorem frz_mp (id : Nat) (H : List O) : frzD (.mp id) H = (.mp id, H) := rfl
theorem frz_tup (xs : List D) (H : List O) : frzD (.tup xs) H = (.tup xs, H) := rfl
theorem frz_fn (f : FuncId) (xs : List D) (H : List O) : frzD (.fn f xs) H = (.fn f xs, H) := rfl
theorem frz_nn (H : List O) : frzD .nn H = (.nn, H) := rfl
theorem frz_junk (H : List O) : frzD .junk H = (.junk, H) := rfl
section
variable (CA : CAt) (G : Nat → D) (s : Nat → D) (H : List O) (K : (Nat → D) → List O → Prop) (rest : List DOp) (dst : Option Nat)
@[congr] theorem vcOps_congr {ops ops' : List DOp} (h : ops = ops') : vcOps CA G ops s H K = vcOps CA G ops' s H K := by rw [h]
theorem ops_nil : vcOps CA G [] s H K = K s H := rfl
def Then (s : Nat → D) (dst : Option Nat) (d : D) (H : List O) (K : (Nat → D) → List O → Prop) (rest : List DOp) : Prop := vcOps CA G rest (DL.put s dst d) H K
@[congr] theorem Then_congr {s s' : Nat → D} {d d' : D} {H H' : List O} (h : d = d') (k : H = H') : Then CA G s dst d H K rest = Then CA G s dst d' H' K rest := by rw [h, k]
theorem then_some (i : Nat) (d : D) : Then CA G s (some i) d H K rest = vcOps CA G rest (upd s i d) H K := rfl
theorem then_none (d : D) : Then CA G s none d H K rest = vcOps CA G rest s H K := rfl
theorem o_frz (t : Nat) (g : Option (Nat × Bool)) : vcOps CA G (⟨dst, .frz t, g⟩ :: rest) s H K = Then CA G s (some t) (frzD (s t) H).1 (frzD (s t) H).2 K rest := by cases g <;> rfl
theorem o_mv (x : X) : vcOps CA G (⟨dst, .mv x, none⟩ :: rest) s H K = Then CA G s dst (x.val G s) H K rest := rfl
theorem o_pick (c a b : X) : vcOps CA G (⟨dst, .pick c a b, none⟩ :: rest) s H K = onB (c.val G s) (Then CA G s dst (a.val G s) H K rest) (Then CA G s dst (b.val G s) H K rest) := rfl
theorem o_alloc (e : TypeId) (z : List D) : vcOps CA G (⟨dst, .alloc e z, none⟩ :: rest) s H K = Then CA G s dst (.ptr H.length 0) (H ++ [.box e z]) K rest := rfl
theorem o_box (e : TypeId) (x : X) : vcOps CA G (⟨dst, .box e x, none⟩ :: rest) s H K = ((x.val G s).whole ∧ Then CA G s dst (.ptr H.length 0) (H ++ [.box e (x.val G s).leaves]) K rest) := rfl
theorem o_bld (z : List D) (parts : List (Nat × Nat × X)) : vcOps CA G (⟨dst, .bld z parts, none⟩ :: rest) s H K = ((∀ p ∈ parts, (p.2.2.val G s).whole ∧ (p.2.2.val G s).leaves.length = p.2.1 ∧ p.1 + p.2.1 ≤ z.length) ∧ Then CA G s dst (.agg (fillD z (parts.map fun p => (p.1, (p.2.2.val G s).leaves)))) H K rest) := rfl
theorem o_bslr (e : TypeId) (sz : Nat) (parts : List X) : vcOps CA G (⟨dst, .bsl true e sz parts, none⟩ :: rest) s H K = ((∀ x ∈ parts, (x.val G s).whole ∧ (x.val G s).leaves.length = sz) ∧ Then CA G s dst (.row H.length 0) (H ++ [.row true 0 e sz (parts.map (X.val G s))]) K rest) := by
  simp only [vcOps, vcOp, Then, if_true]
theorem o_bslf (e : TypeId) (sz : Nat) (parts : List X) : vcOps CA G (⟨dst, .bsl false e sz parts, none⟩ :: rest) s H K = ((∀ x ∈ parts, (x.val G s).whole ∧ (x.val G s).leaves.length = sz) ∧ Then CA G s dst (.sl (parts.map (X.val G s))) H K rest) := by
  simp only [vcOps, vcOp, Then, Bool.false_eq_true, if_false]
theorem o_load (n : Nat) (agg : Bool) (x : X) : vcOps CA G (⟨dst, .load n agg x, none⟩ :: rest) s H K = onLoad n agg (x.val G s) H fun d => Then CA G s dst d H K rest := rfl
theorem o_store (n : Nat) (x y : X) : vcOps CA G (⟨dst, .store n x y, none⟩ :: rest) s H K = ((y.val G s).whole ∧ (y.val G s).leaves.length = n ∧ onStore n (x.val G s) (y.val G s).leaves H fun H' => Then CA G s dst (.lit undef) H' K rest) := by
  simp only [vcOps, vcOp]
  congr 2
  generalize x.val G s = d
  cases d with
  | ptr id off => rfl
  | rel id ver j k =>
    simp only [onStore, onRow]
    split
    · rename_i h; rw [h]; simp [Then]
    · rename_i h
      split
      · rename_i xb v e sz xs h'
        cases xb with
        | true => exact absurd h' (h v e sz xs)
        | false => simp
      · rfl
  | _ => rfl
theorem o_nilck (x : X) : vcOps CA G (⟨dst, .nilck x, none⟩ :: rest) s H K = onNil (x.val G s) fun d => Then CA G s dst d H K rest := rfl
theorem o_bin (op : BinOp) (x y : X) : vcOps CA G (⟨dst, .bin op x y, none⟩ :: rest) s H K = onBin op (x.val G s) (y.val G s) fun d => Then CA G s dst d H K rest := rfl
theorem o_eqb (op : BinOp) (x y : X) : vcOps CA G (⟨dst, .eqb op x y, none⟩ :: rest) s H K = onEqb op (x.val G s) (y.val G s) fun d => Then CA G s dst d H K rest := rfl
theorem o_eqn (op : BinOp) (x y : X) : vcOps CA G (⟨dst, .eqn op x y, none⟩ :: rest) s H K = onEqn op (x.val G s) (y.val G s) fun d => Then CA G s dst d H K rest := rfl
theorem o_un (op : UnOp) (x : X) : vcOps CA G (⟨dst, .un op x, none⟩ :: rest) s H K = onUn op (x.val G s) fun d => Then CA G s dst d H K rest := rfl
theorem o_conv (k : IntKind) (x : X) : vcOps CA G (⟨dst, .conv k x, none⟩ :: rest) s H K = onConv k (x.val G s) fun d => Then CA G s dst d H K rest := rfl
theorem o_mkfn (f : FuncId) (caps : List X) : vcOps CA G (⟨dst, .mkfn f caps, none⟩ :: rest) s H K = Then CA G s dst (.fn f (caps.map (X.val G s))) H K rest := rfl
theorem o_mkmap : vcOps CA G (⟨dst, .mkmap, none⟩ :: rest) s H K = Then CA G s dst (.mp H.length) (H ++ [.map 0 []]) K rest := rfl
theorem o_slcS (x : X) (lo hi : Option X) : vcOps CA G (⟨dst, .slcS x lo hi, none⟩ :: rest) s H K = onSlcS (x.val G s) (lo.map (X.val G s)) (hi.map (X.val G s)) fun d => Then CA G s dst d H K rest := by
  simp only [vcOps, vcOp, boundOf_eq]; rfl
theorem o_slcL (sz : Nat) (x : X) (lo hi : Option X) : vcOps CA G (⟨dst, .slcL sz x lo hi, none⟩ :: rest) s H K = onSlcL sz (x.val G s) (lo.map (X.val G s)) (hi.map (X.val G s)) fun d => Then CA G s dst d H K rest := by
  simp only [vcOps, vcOp, boundOf_eq]; rfl
theorem o_fad (off : Nat) (x : X) : vcOps CA G (⟨dst, .fad off x, none⟩ :: rest) s H K = onFad off (x.val G s) fun d => Then CA G s dst d H K rest := rfl
theorem o_fld (off n : Nat) (agg : Bool) (x : X) : vcOps CA G (⟨dst, .fld off n agg x, none⟩ :: rest) s H K = onFld off n agg (x.val G s) fun d => Then CA G s dst d H K rest := rfl
theorem o_iad (sz : Nat) (x i : X) : vcOps CA G (⟨dst, .iad sz x i, none⟩ :: rest) s H K = onIad sz (x.val G s) (i.val G s) H fun d => Then CA G s dst d H K rest := by
  simp only [vcOps, vcOp]
  generalize x.val G s = d
  generalize i.val G s = d'
  cases d with
  | sl xs =>
    cases d' with
    | lit v => cases v <;> simp [onIad, onIdx, Then]
    | _ => rfl
  | row id ver =>
    cases d' with
    | lit v => cases v <;> rfl
    | _ => rfl
  | _ => rfl
theorem o_iaa (sz m : Nat) (x i : X) : vcOps CA G (⟨dst, .iaa sz m x i, none⟩ :: rest) s H K = onIaa sz m (x.val G s) (i.val G s) fun d => Then CA G s dst d H K rest := rfl
theorem o_idxS (x i : X) : vcOps CA G (⟨dst, .idxS x i, none⟩ :: rest) s H K = onIdxS (x.val G s) (i.val G s) fun d => Then CA G s dst d H K rest := rfl
theorem o_ext (x : X) (i : Nat) : vcOps CA G (⟨dst, .ext x i, none⟩ :: rest) s H K = onExt (x.val G s) i fun d => Then CA G s dst d H K rest := rfl
theorem o_call (f : X) (args : List X) : vcOps CA G (⟨dst, .call f args, none⟩ :: rest) s H K = onCall CA (f.val G s) (args.map (X.val G s)) H fun d H' => Then CA G s dst d H' K rest := rfl
theorem o_lenS (x : X) : vcOps CA G (⟨dst, .lenS x, none⟩ :: rest) s H K = onLenS (x.val G s) fun d => Then CA G s dst d H K rest := rfl
theorem o_lenL (x : X) : vcOps CA G (⟨dst, .lenL x, none⟩ :: rest) s H K = onLenL (x.val G s) H fun d => Then CA G s dst d H K rest := rfl
theorem o_app (e sz bytes : Nat) (x y : X) : vcOps CA G (⟨dst, .app e sz bytes x y, none⟩ :: rest) s H K = onApp e sz bytes (x.val G s) (y.val G s) H fun d H' => Then CA G s dst d H' K rest := rfl
theorem o_appS (e : TypeId) (x y : X) : vcOps CA G (⟨dst, .appS e x y, none⟩ :: rest) s H K = onAppS e (x.val G s) (y.val G s) H fun d H' => Then CA G s dst d H' K rest := by
  simp only [vcOps, vcOp]
  generalize x.val G s = d
  generalize y.val G s = d'
  cases d with
  | row id ver =>
    cases d' with
    | lit v =>
      cases v with
      | string b =>
        simp only [onAppS, onRow]
        cases H[id]? with
        | none => rfl
        | some o =>
          cases o with
          | row x v e' sz' xs => cases x <;> simp [Then]
          | _ => rfl
      | _ => rfl
    | _ => rfl
  | lit v =>
    cases v with
    | slice a n cap =>
      rcases a with _ | a <;> rcases n with _ | n <;> rcases cap with _ | cap <;> (cases d' with
        | lit u => cases u <;> rfl
        | _ => rfl)
    | _ => cases d' with
      | lit u => cases u <;> rfl
      | _ => rfl
  | _ => rfl
theorem o_slcA (n : Nat) (x : X) : vcOps CA G (⟨dst, .slcA n x, none⟩ :: rest) s H K = onSlcA n (x.val G s) fun d => Then CA G s dst d H K rest := rfl
theorem o_idxA (sz n : Nat) (agg : Bool) (x i : X) : vcOps CA G (⟨dst, .idxA sz n agg x i, none⟩ :: rest) s H K = onIdxA sz n agg (x.val G s) (i.val G s) fun d => Then CA G s dst d H K rest := rfl
theorem o_str (x : X) : vcOps CA G (⟨dst, .str x, none⟩ :: rest) s H K = onStr (x.val G s) fun d => Then CA G s dst d H K rest := rfl
theorem o_lenM (x : X) : vcOps CA G (⟨dst, .lenM x, none⟩ :: rest) s H K = onLenM (x.val G s) H fun d => Then CA G s dst d H K rest := rfl
theorem o_mput (kd : TypeDesc) (x k y : X) : vcOps CA G (⟨dst, .mput kd x k y, none⟩ :: rest) s H K = onMput kd (x.val G s) (k.val G s) (y.val G s) H fun d H' => Then CA G s dst d H' K rest := rfl
theorem o_mget (kd : TypeDesc) (z : Value) (ok : Bool) (x k : X) : vcOps CA G (⟨dst, .mget kd z ok x k, none⟩ :: rest) s H K = onMget kd z ok (x.val G s) (k.val G s) H fun d => Then CA G s dst d H K rest := rfl
theorem o_rng (x : X) : vcOps CA G (⟨dst, .rng x, none⟩ :: rest) s H K = onRng (x.val G s) H fun d H' => Then CA G s dst d H' K rest := rfl
theorem o_nxt (x : X) : vcOps CA G (⟨dst, .nxt x, none⟩ :: rest) s H K = onNxt (x.val G s) H fun d H' => Then CA G s dst d H' K rest := rfl
theorem o_ent (x : X) : vcOps CA G (⟨dst, .ent x, none⟩ :: rest) s H K = onEnt (x.val G s) H fun d => Then CA G s dst d H K rest := by
  show vcOp CA G (.ent x) s H _ = _
  simp only [vcOp]
  generalize x.val G s = d
  cases d with
  | it id =>
    simp only [onEnt, onIter, onMap]
    cases h : H[id]? with
    | none => rfl
    | some o =>
      cases o with
      | iter m mv left cur =>
        cases cur with
        | none => rfl
        | some p => obtain ⟨k, d⟩ := p; simp only [Then]; rfl
      | _ => rfl
  | _ => rfl
theorem o_guard (op : DO) (g : Nat) (b : Bool) (hf : ∀ t, op ≠ .frz t) : vcOps CA G (⟨dst, op, some (g, b)⟩ :: rest) s H K =
    onG (s g) b (vcOps CA G (⟨dst, op, none⟩ :: rest) (upd s g (.lit (.bool b))) H K) (Then CA G (upd s g (.lit (.bool !b))) dst (.lit undef) H K rest) (Then CA G s dst (.lit undef) H K rest) := by
  cases op <;> first | rfl | exact absurd rfl (hf _)
end
theorem vcOp_mono {P : Program} {G : Nat → D} {op : DO} {s : Nat → D} {H : List O} {K K' : D → List O → Prop} (hk : ∀ d H', K d H' → K' d H') (h : vcOp (CallA P G) G op s H K) : vcOp (CallA P G) G op s H K' := by
  cases op with
  | call f args =>
    simp only [vcOp] at h ⊢
    split at h
    · exact h.mono hk
    · exact h.elim
  | frz t => exact h
  | mv x => exact hk _ _ h
  | alloc e z => exact hk _ _ h
  | mkmap => exact hk _ _ h
  | mkfn f caps => exact hk _ _ h
  | box e x => exact ⟨h.1, hk _ _ h.2⟩
  | bld z parts => exact ⟨h.1, hk _ _ h.2⟩
  | bsl row e sz parts =>
    refine ⟨h.1, ?_⟩
    have := h.2
    split at this
    · rename_i hr; rw [if_pos hr]; exact hk _ _ this
    · rename_i hr; rw [if_neg hr]; exact hk _ _ this
  | str x => obtain ⟨bs, h1, h2⟩ := h; exact ⟨bs, h1, hk _ _ h2⟩
  | pick c a b =>
    simp only [vcOp] at h ⊢
    split at h
    · exact ⟨fun q => hk _ _ (h.1 q), fun q => hk _ _ (h.2 q)⟩
    · exact h.elim
  | load n agg x =>
    simp only [vcOp] at h ⊢
    split at h
    · exact ⟨h.1, hk _ _ h.2⟩
    · split at h
      · exact ⟨h.1, hk _ _ h.2⟩
      · exact h.elim
    · split at h
      · obtain ⟨h1, h2, y, h3, h4⟩ := h; exact ⟨h1, h2, y, h3, hk _ _ h4⟩
      · exact h.elim
    · exact h.elim
  | store n x y =>
    simp only [vcOp] at h ⊢
    refine ⟨h.1, h.2.1, ?_⟩
    have h' := h.2.2
    split at h'
    · split at h'
      · exact ⟨h'.1, hk _ _ h'.2⟩
      · exact h'.elim
    · split at h'
      · obtain ⟨h1, h2, y, h3, h4⟩ := h'; exact ⟨h1, h2, y, h3, hk _ _ h4⟩
      · exact h'.elim
    · exact h'.elim
  | nilck x => simp only [vcOp] at h ⊢; split at h <;> first | exact hk _ _ h | exact h.elim
  | bin op x y =>
    simp only [vcOp] at h ⊢
    split at h
    · split at h
      · exact hk _ _ h
      · exact h.elim
    · exact h.elim
  | eqb op x y => simp only [vcOp] at h ⊢; split at h <;> first | exact hk _ _ h | exact h.elim
  | eqn op x y => simp only [vcOp] at h ⊢; split at h <;> first | exact hk _ _ h | exact h.elim
  | un op x => simp only [vcOp] at h ⊢; split at h <;> first | exact hk _ _ h | exact h.elim
  | conv k x => simp only [vcOp] at h ⊢; split at h <;> first | exact hk _ _ h | exact h.elim
  | slcS x lo hi =>
    simp only [vcOp] at h ⊢
    split at h
    · obtain ⟨l, q, h1, h2, h3, h4, h5, h6⟩ := h; exact ⟨l, q, h1, h2, h3, h4, h5, hk _ _ h6⟩
    · exact h.elim
  | slcL sz x lo hi =>
    simp only [vcOp] at h ⊢
    split at h
    · obtain ⟨l, q, h1, h2, h3, h4, h5, h6, h7⟩ := h; exact ⟨l, q, h1, h2, h3, h4, h5, h6, hk _ _ h7⟩
    · exact h.elim
  | fad off x => simp only [vcOp] at h ⊢; split at h <;> first | exact hk _ _ h | exact h.elim
  | fld off n agg x => simp only [vcOp] at h ⊢; split at h <;> first | exact ⟨h.1, hk _ _ h.2⟩ | exact h.elim
  | iad sz x i =>
    simp only [vcOp] at h ⊢
    split at h
    · obtain ⟨h1, y, h2, h3, h4⟩ := h; exact ⟨h1, y, h2, h3, hk _ _ h4⟩
    · split at h
      · obtain ⟨h1, h2, h3, h4, h5⟩ := h; exact ⟨h1, h2, h3, h4, hk _ _ h5⟩
      · exact h.elim
    · exact h.elim
  | iaa sz n x i => simp only [vcOp] at h ⊢; split at h <;> first | exact ⟨h.1, h.2.1, hk _ _ h.2.2⟩ | exact h.elim
  | idxS x i =>
    simp only [vcOp] at h ⊢
    split at h
    · obtain ⟨h1, u, h2, h3⟩ := h; exact ⟨h1, u, h2, hk _ _ h3⟩
    · exact h.elim
  | ext x i =>
    simp only [vcOp] at h ⊢
    split at h
    · obtain ⟨d, h1, h2⟩ := h; exact ⟨d, h1, hk _ _ h2⟩
    · exact h.elim
  | lenS x => simp only [vcOp] at h ⊢; split at h <;> first | exact hk _ _ h | exact h.elim
  | lenL x =>
    simp only [vcOp] at h ⊢
    split at h
    · exact hk _ _ h
    · exact hk _ _ h
    · split at h
      · exact ⟨h.1, hk _ _ h.2⟩
      · exact h.elim
    · exact h.elim
  | lenM x =>
    simp only [vcOp] at h ⊢
    split at h
    · split at h
      · exact hk _ _ h
      · exact h.elim
    · exact h.elim
  | app e sz bytes x y =>
    simp only [vcOp] at h ⊢
    split at h
    · split at h
      · obtain ⟨h1, h2, h3, h4, h5, h6⟩ := h; exact ⟨h1, h2, h3, h4, h5, hk _ _ h6⟩
      · exact h.elim
    · obtain ⟨h1, h2, h3⟩ := h; exact ⟨h1, h2, hk _ _ h3⟩
    · exact h.elim
  | appS e x y =>
    simp only [vcOp] at h ⊢
    split at h
    · split at h
      · obtain ⟨h1, h2, h3, h4, h6⟩ := h; exact ⟨h1, h2, h3, h4, hk _ _ h6⟩
      · exact h.elim
    · obtain ⟨h1, h3⟩ := h; exact ⟨h1, hk _ _ h3⟩
    · exact h.elim
  | slcA n x => simp only [vcOp] at h ⊢; split at h <;> first | exact ⟨h.1, hk _ _ h.2⟩ | exact h.elim
  | idxA sz n agg x i => simp only [vcOp] at h ⊢; split at h <;> first | exact ⟨h.1, h.2.1, h.2.2.1, hk _ _ h.2.2.2⟩ | exact h.elim
  | mput kd x k y =>
    simp only [vcOp] at h ⊢
    split at h
    · split at h
      · exact ⟨h.1, h.2.1, hk _ _ h.2.2⟩
      · exact h.elim
    · exact h.elim
  | mget kd z ok x k =>
    simp only [vcOp] at h ⊢
    split at h
    · split at h
      · exact ⟨h.1, h.2.1, hk _ _ h.2.2⟩
      · exact h.elim
    · exact h.elim
  | rng x =>
    simp only [vcOp] at h ⊢
    split at h
    · split at h
      · exact hk _ _ h
      · exact h.elim
    · exact h.elim
  | nxt x =>
    simp only [vcOp] at h ⊢
    split at h
    · split at h
      · split at h
        · exact ⟨h.1, fun q => hk _ _ (h.2.1 q), fun i q => hk _ _ (h.2.2 i q)⟩
        · exact h.elim
      · exact h.elim
    · exact h.elim
  | ent x =>
    simp only [vcOp] at h ⊢
    split at h
    · split at h
      · split at h
        · exact ⟨h.1, hk _ _ h.2⟩
        · exact h.elim
      · exact h.elim
    · exact h.elim
end Go.DL
set_option linter.unusedVariables false
set_option linter.unusedSimpArgs false
namespace Go.DL
open Go
theorem vcOp_det {CA : CAt} {G : Nat → D} {op : DO} {s : Nat → D} {H : List O} {K : D → List O → Prop} (hc : ∀ f args, op ≠ .call f args) (hn : ∀ x, op ≠ .nxt x) (h : vcOp CA G op s H K) : ∃ v H', vcOp CA G op s H (fun d h => d = v ∧ h = H') ∧ K v H' := by
  cases op with
  | call f args => exact absurd rfl (hc _ _)
  | frz t => exact h.elim
  | mv x => exact ⟨_, _, ⟨rfl, rfl⟩, h⟩
  | alloc e z => exact ⟨_, _, ⟨rfl, rfl⟩, h⟩
  | mkmap => exact ⟨_, _, ⟨rfl, rfl⟩, h⟩
  | mkfn f caps => exact ⟨_, _, ⟨rfl, rfl⟩, h⟩
  | box e x => exact ⟨_, _, ⟨h.1, rfl, rfl⟩, h.2⟩
  | bld z parts => exact ⟨_, _, ⟨h.1, rfl, rfl⟩, h.2⟩
  | bsl row e sz parts =>
    cases row with
    | true => exact ⟨_, _, ⟨h.1, rfl, rfl⟩, h.2⟩
    | false => exact ⟨_, _, ⟨h.1, rfl, rfl⟩, h.2⟩
  | str x => obtain ⟨bs, h1, h2⟩ := h; exact ⟨_, _, ⟨bs, h1, rfl, rfl⟩, h2⟩
  | pick c a b =>
    simp only [vcOp] at h ⊢
    split at h
    · rename_i t ht
      cases t with
      | true => exact ⟨_, _, ⟨fun _ => ⟨rfl, rfl⟩, fun q => by cases q⟩, h.1 rfl⟩
      | false => exact ⟨_, _, ⟨fun q => (by cases q), fun _ => ⟨rfl, rfl⟩⟩, h.2 rfl⟩
    · exact h.elim
  | load n agg x =>
    simp only [vcOp] at h ⊢
    split at h
    · exact ⟨_, _, ⟨h.1, rfl, rfl⟩, h.2⟩
    · split at h
      · exact ⟨_, _, ⟨h.1, rfl, rfl⟩, h.2⟩
      · exact h.elim
    · split at h
      · obtain ⟨h1, h2, y, h3, h4⟩ := h; exact ⟨_, _, ⟨h1, h2, y, h3, rfl, rfl⟩, h4⟩
      · exact h.elim
    · exact h.elim
  | store n x y =>
    simp only [vcOp] at h ⊢
    obtain ⟨g1, g2, h'⟩ := h
    split at h'
    · split at h'
      · exact ⟨_, _, ⟨g1, g2, h'.1, rfl, rfl⟩, h'.2⟩
      · exact h'.elim
    · split at h'
      · obtain ⟨h1, h2, y, h3, h4⟩ := h'; exact ⟨_, _, ⟨g1, g2, h1, h2, y, h3, rfl, rfl⟩, h4⟩
      · exact h'.elim
    · exact h'.elim
  | nilck x => simp only [vcOp] at h ⊢; split at h <;> first | exact ⟨_, _, ⟨rfl, rfl⟩, h⟩ | exact h.elim
  | bin op x y =>
    simp only [vcOp] at h ⊢
    split at h
    · split at h
      · rename_i r hr; refine ⟨.lit r, H, ?_, h⟩; simp [hr]
      · exact h.elim
    · exact h.elim
  | eqb op x y => simp only [vcOp] at h ⊢; split at h <;> first | (rename_i r hr; exact ⟨_, _, by exact ⟨rfl, rfl⟩, h⟩) | exact h.elim
  | eqn op x y => simp only [vcOp] at h ⊢; split at h <;> first | (rename_i r hr; exact ⟨_, _, by exact ⟨rfl, rfl⟩, h⟩) | exact h.elim
  | un op x => simp only [vcOp] at h ⊢; split at h <;> first | (rename_i r hr; exact ⟨_, _, by exact ⟨rfl, rfl⟩, h⟩) | exact h.elim
  | conv k x => simp only [vcOp] at h ⊢; split at h <;> first | exact ⟨_, _, ⟨rfl, rfl⟩, h⟩ | exact h.elim
  | slcS x lo hi =>
    simp only [vcOp] at h ⊢
    split at h
    · obtain ⟨l, q, h1, h2, h3, h4, h5, h6⟩ := h; exact ⟨_, _, ⟨l, q, h1, h2, h3, h4, h5, rfl, rfl⟩, h6⟩
    · exact h.elim
  | slcL sz x lo hi =>
    simp only [vcOp] at h ⊢
    split at h
    · obtain ⟨l, q, h1, h2, h3, h4, h5, h6, h7⟩ := h; exact ⟨_, _, ⟨l, q, h1, h2, h3, h4, h5, h6, rfl, rfl⟩, h7⟩
    · exact h.elim
  | fad off x => simp only [vcOp] at h ⊢; split at h <;> first | exact ⟨_, _, ⟨rfl, rfl⟩, h⟩ | exact h.elim
  | fld off n agg x => simp only [vcOp] at h ⊢; split at h <;> first | exact ⟨_, _, ⟨h.1, rfl, rfl⟩, h.2⟩ | exact h.elim
  | iad sz x i =>
    simp only [vcOp] at h ⊢
    split at h
    · obtain ⟨h1, y, h2, h3, h4⟩ := h; exact ⟨_, _, ⟨h1, y, h2, h3, rfl, rfl⟩, h4⟩
    · split at h
      · obtain ⟨h1, h2, h3, h4, h5⟩ := h; exact ⟨_, _, ⟨h1, h2, h3, h4, rfl, rfl⟩, h5⟩
      · exact h.elim
    · exact h.elim
  | iaa sz n x i => simp only [vcOp] at h ⊢; split at h <;> first | exact ⟨_, _, ⟨h.1, h.2.1, rfl, rfl⟩, h.2.2⟩ | exact h.elim
  | idxS x i =>
    simp only [vcOp] at h ⊢
    split at h
    · obtain ⟨h1, u, h2, h3⟩ := h; exact ⟨_, _, ⟨h1, u, h2, rfl, rfl⟩, h3⟩
    · exact h.elim
  | ext x i =>
    simp only [vcOp] at h ⊢
    split at h
    · obtain ⟨d, h1, h2⟩ := h; exact ⟨_, _, ⟨d, h1, rfl, rfl⟩, h2⟩
    · exact h.elim
  | lenS x => simp only [vcOp] at h ⊢; split at h <;> first | exact ⟨_, _, ⟨rfl, rfl⟩, h⟩ | exact h.elim
  | lenL x =>
    simp only [vcOp] at h ⊢
    split at h
    · exact ⟨_, _, ⟨rfl, rfl⟩, h⟩
    · exact ⟨_, _, ⟨rfl, rfl⟩, h⟩
    · split at h
      · exact ⟨_, _, ⟨h.1, rfl, rfl⟩, h.2⟩
      · exact h.elim
    · exact h.elim
  | lenM x =>
    simp only [vcOp] at h ⊢
    split at h
    · split at h
      · exact ⟨_, _, ⟨rfl, rfl⟩, h⟩
      · exact h.elim
    · exact h.elim
  | app e sz bytes x y =>
    simp only [vcOp] at h ⊢
    split at h
    · split at h
      · obtain ⟨h1, h2, h3, h4, h5, h6⟩ := h; exact ⟨_, _, ⟨h1, h2, h3, h4, h5, rfl, rfl⟩, h6⟩
      · exact h.elim
    · obtain ⟨h1, h2, h3⟩ := h; exact ⟨_, _, ⟨h1, h2, rfl, rfl⟩, h3⟩
    · exact h.elim
  | appS e x y =>
    simp only [vcOp] at h ⊢
    split at h
    · split at h
      · obtain ⟨h1, h2, h3, h4, h6⟩ := h; exact ⟨_, _, ⟨h1, h2, h3, h4, rfl, rfl⟩, h6⟩
      · exact h.elim
    · obtain ⟨h1, h3⟩ := h; exact ⟨_, _, ⟨h1, rfl, rfl⟩, h3⟩
    · exact h.elim
  | nxt x => exact absurd rfl (hn _)
  | slcA n x => simp only [vcOp] at h ⊢; split at h <;> first | exact ⟨_, _, ⟨h.1, rfl, rfl⟩, h.2⟩ | exact h.elim
  | idxA sz n agg x i => simp only [vcOp] at h ⊢; split at h <;> first | exact ⟨_, _, ⟨h.1, h.2.1, h.2.2.1, rfl, rfl⟩, h.2.2.2⟩ | exact h.elim
  | mput kd x k y =>
    simp only [vcOp] at h ⊢
    split at h
    · split at h
      · exact ⟨_, _, ⟨h.1, h.2.1, rfl, rfl⟩, h.2.2⟩
      · exact h.elim
    · exact h.elim
  | mget kd z ok x k =>
    simp only [vcOp] at h ⊢
    split at h
    · split at h
      · exact ⟨_, _, ⟨h.1, h.2.1, rfl, rfl⟩, h.2.2⟩
      · exact h.elim
    · exact h.elim
  | rng x =>
    simp only [vcOp] at h ⊢
    split at h
    · split at h
      · exact ⟨_, _, ⟨rfl, rfl⟩, h⟩
      · exact h.elim
    · exact h.elim
  | ent x =>
    simp only [vcOp] at h ⊢
    split at h
    · split at h
      · split at h
        · exact ⟨_, _, ⟨h.1, rfl, rfl⟩, h.2⟩
        · exact h.elim
      · exact h.elim
    · exact h.elim
section
variable (P : Program) (G : Nat → D) (s : Nat → D) (H : List O) (K : (Nat → D) → Prop) (rest : List DOp) (dst : Option Nat)
@[congr] theorem vcDrw_congr {CA : CAt} {ops ops' : List DOp} (h : ops = ops') : vcDrw CA G H ops s K = vcDrw CA G H ops' s K := by rw [h]
theorem d_nil {CA : CAt} : vcDrw CA G H [] s K = K s := rfl
def ThenD (CA : CAt) (G : Nat → D) (H : List O) (rest : List DOp) (K : (Nat → D) → Prop) : (Nat → D) → List O → Prop := fun s' H' => H' = H ∧ vcDrw CA G H rest s' K
theorem thenD_app {CA : CAt} (s' : Nat → D) (H' : List O) : ThenD CA G H rest K s' H' = (H' = H ∧ vcDrw CA G H rest s' K) := rfl
theorem d_op (op : DO) (hc : ∀ f args, op ≠ .call f args) (hn : ∀ x, op ≠ .nxt x) (hf : ∀ t, op ≠ .frz t) : vcDrw (CallA P G) G H (⟨dst, op, none⟩ :: rest) s K = vcOps (CallA P G) G [⟨dst, op, none⟩] s H (ThenD (CallA P G) G H rest K) := by
  have e : vcOps (CallA P G) G [⟨dst, op, none⟩] s H (ThenD (CallA P G) G H rest K) = vcOp (CallA P G) G op s H fun d H' => H' = H ∧ vcDrw (CallA P G) G H rest (DL.put s dst d) K := by
    cases op <;> first | rfl | exact absurd rfl (hf _)
  rw [e]
  apply propext
  constructor
  · rintro ⟨v, h1, h2⟩
    exact vcOp_mono (by rintro d H' ⟨rfl, rfl⟩; exact ⟨rfl, h2⟩) h1
  · intro h
    obtain ⟨v, H', h1, rfl, h2⟩ := vcOp_det hc hn h
    exact ⟨v, h1, h2⟩
theorem dd_mv (x : X) : vcDrw (CallA P G) G H (⟨dst, .mv x, none⟩ :: rest) s K = vcOps (CallA P G) G [⟨dst, .mv x, none⟩] s H (ThenD (CallA P G) G H rest K) := d_op P G s H K rest dst _ (by simp) (by simp) (by simp)
theorem dd_pick (c a b : X) : vcDrw (CallA P G) G H (⟨dst, .pick c a b, none⟩ :: rest) s K = vcOps (CallA P G) G [⟨dst, .pick c a b, none⟩] s H (ThenD (CallA P G) G H rest K) := d_op P G s H K rest dst _ (by simp) (by simp) (by simp)
theorem dd_alloc (e : TypeId) (z : List D) : vcDrw (CallA P G) G H (⟨dst, .alloc e z, none⟩ :: rest) s K = vcOps (CallA P G) G [⟨dst, .alloc e z, none⟩] s H (ThenD (CallA P G) G H rest K) := d_op P G s H K rest dst _ (by simp) (by simp) (by simp)
theorem dd_box (e : TypeId) (x : X) : vcDrw (CallA P G) G H (⟨dst, .box e x, none⟩ :: rest) s K = vcOps (CallA P G) G [⟨dst, .box e x, none⟩] s H (ThenD (CallA P G) G H rest K) := d_op P G s H K rest dst _ (by simp) (by simp) (by simp)
theorem dd_bld (z : List D) (parts : List (Nat × Nat × X)) : vcDrw (CallA P G) G H (⟨dst, .bld z parts, none⟩ :: rest) s K = vcOps (CallA P G) G [⟨dst, .bld z parts, none⟩] s H (ThenD (CallA P G) G H rest K) := d_op P G s H K rest dst _ (by simp) (by simp) (by simp)
theorem dd_bsl (row : Bool) (e : TypeId) (s0 : Nat) (parts : List X) : vcDrw (CallA P G) G H (⟨dst, .bsl row e s0 parts, none⟩ :: rest) s K = vcOps (CallA P G) G [⟨dst, .bsl row e s0 parts, none⟩] s H (ThenD (CallA P G) G H rest K) := d_op P G s H K rest dst _ (by simp) (by simp) (by simp)
theorem dd_load (n : Nat) (agg : Bool) (x : X) : vcDrw (CallA P G) G H (⟨dst, .load n agg x, none⟩ :: rest) s K = vcOps (CallA P G) G [⟨dst, .load n agg x, none⟩] s H (ThenD (CallA P G) G H rest K) := d_op P G s H K rest dst _ (by simp) (by simp) (by simp)
theorem dd_store (n : Nat) (x y : X) : vcDrw (CallA P G) G H (⟨dst, .store n x y, none⟩ :: rest) s K = vcOps (CallA P G) G [⟨dst, .store n x y, none⟩] s H (ThenD (CallA P G) G H rest K) := d_op P G s H K rest dst _ (by simp) (by simp) (by simp)
theorem dd_nilck (x : X) : vcDrw (CallA P G) G H (⟨dst, .nilck x, none⟩ :: rest) s K = vcOps (CallA P G) G [⟨dst, .nilck x, none⟩] s H (ThenD (CallA P G) G H rest K) := d_op P G s H K rest dst _ (by simp) (by simp) (by simp)
theorem dd_bin (op : BinOp) (x y : X) : vcDrw (CallA P G) G H (⟨dst, .bin op x y, none⟩ :: rest) s K = vcOps (CallA P G) G [⟨dst, .bin op x y, none⟩] s H (ThenD (CallA P G) G H rest K) := d_op P G s H K rest dst _ (by simp) (by simp) (by simp)
theorem dd_eqb (op : BinOp) (x y : X) : vcDrw (CallA P G) G H (⟨dst, .eqb op x y, none⟩ :: rest) s K = vcOps (CallA P G) G [⟨dst, .eqb op x y, none⟩] s H (ThenD (CallA P G) G H rest K) := d_op P G s H K rest dst _ (by simp) (by simp) (by simp)
theorem dd_eqn (op : BinOp) (x y : X) : vcDrw (CallA P G) G H (⟨dst, .eqn op x y, none⟩ :: rest) s K = vcOps (CallA P G) G [⟨dst, .eqn op x y, none⟩] s H (ThenD (CallA P G) G H rest K) := d_op P G s H K rest dst _ (by simp) (by simp) (by simp)
theorem dd_un (op : UnOp) (x : X) : vcDrw (CallA P G) G H (⟨dst, .un op x, none⟩ :: rest) s K = vcOps (CallA P G) G [⟨dst, .un op x, none⟩] s H (ThenD (CallA P G) G H rest K) := d_op P G s H K rest dst _ (by simp) (by simp) (by simp)
theorem dd_conv (k : IntKind) (x : X) : vcDrw (CallA P G) G H (⟨dst, .conv k x, none⟩ :: rest) s K = vcOps (CallA P G) G [⟨dst, .conv k x, none⟩] s H (ThenD (CallA P G) G H rest K) := d_op P G s H K rest dst _ (by simp) (by simp) (by simp)
theorem dd_str (x : X) : vcDrw (CallA P G) G H (⟨dst, .str x, none⟩ :: rest) s K = vcOps (CallA P G) G [⟨dst, .str x, none⟩] s H (ThenD (CallA P G) G H rest K) := d_op P G s H K rest dst _ (by simp) (by simp) (by simp)
theorem dd_mkfn (f : FuncId) (caps : List X) : vcDrw (CallA P G) G H (⟨dst, .mkfn f caps, none⟩ :: rest) s K = vcOps (CallA P G) G [⟨dst, .mkfn f caps, none⟩] s H (ThenD (CallA P G) G H rest K) := d_op P G s H K rest dst _ (by simp) (by simp) (by simp)
theorem dd_mkmap  : vcDrw (CallA P G) G H (⟨dst, .mkmap, none⟩ :: rest) s K = vcOps (CallA P G) G [⟨dst, .mkmap, none⟩] s H (ThenD (CallA P G) G H rest K) := d_op P G s H K rest dst _ (by simp) (by simp) (by simp)
theorem dd_slcS (x : X) (lo hi : Option X) : vcDrw (CallA P G) G H (⟨dst, .slcS x lo hi, none⟩ :: rest) s K = vcOps (CallA P G) G [⟨dst, .slcS x lo hi, none⟩] s H (ThenD (CallA P G) G H rest K) := d_op P G s H K rest dst _ (by simp) (by simp) (by simp)
theorem dd_slcL (s0 : Nat) (x : X) (lo hi : Option X) : vcDrw (CallA P G) G H (⟨dst, .slcL s0 x lo hi, none⟩ :: rest) s K = vcOps (CallA P G) G [⟨dst, .slcL s0 x lo hi, none⟩] s H (ThenD (CallA P G) G H rest K) := d_op P G s H K rest dst _ (by simp) (by simp) (by simp)
theorem dd_fad (off : Nat) (x : X) : vcDrw (CallA P G) G H (⟨dst, .fad off x, none⟩ :: rest) s K = vcOps (CallA P G) G [⟨dst, .fad off x, none⟩] s H (ThenD (CallA P G) G H rest K) := d_op P G s H K rest dst _ (by simp) (by simp) (by simp)
theorem dd_fld (off n : Nat) (agg : Bool) (x : X) : vcDrw (CallA P G) G H (⟨dst, .fld off n agg x, none⟩ :: rest) s K = vcOps (CallA P G) G [⟨dst, .fld off n agg x, none⟩] s H (ThenD (CallA P G) G H rest K) := d_op P G s H K rest dst _ (by simp) (by simp) (by simp)
theorem dd_iad (s0 : Nat) (x i : X) : vcDrw (CallA P G) G H (⟨dst, .iad s0 x i, none⟩ :: rest) s K = vcOps (CallA P G) G [⟨dst, .iad s0 x i, none⟩] s H (ThenD (CallA P G) G H rest K) := d_op P G s H K rest dst _ (by simp) (by simp) (by simp)
theorem dd_iaa (s0 n : Nat) (x i : X) : vcDrw (CallA P G) G H (⟨dst, .iaa s0 n x i, none⟩ :: rest) s K = vcOps (CallA P G) G [⟨dst, .iaa s0 n x i, none⟩] s H (ThenD (CallA P G) G H rest K) := d_op P G s H K rest dst _ (by simp) (by simp) (by simp)
theorem dd_idxS (x i : X) : vcDrw (CallA P G) G H (⟨dst, .idxS x i, none⟩ :: rest) s K = vcOps (CallA P G) G [⟨dst, .idxS x i, none⟩] s H (ThenD (CallA P G) G H rest K) := d_op P G s H K rest dst _ (by simp) (by simp) (by simp)
theorem dd_ext (x : X) (i : Nat) : vcDrw (CallA P G) G H (⟨dst, .ext x i, none⟩ :: rest) s K = vcOps (CallA P G) G [⟨dst, .ext x i, none⟩] s H (ThenD (CallA P G) G H rest K) := d_op P G s H K rest dst _ (by simp) (by simp) (by simp)
theorem dd_lenS (x : X) : vcDrw (CallA P G) G H (⟨dst, .lenS x, none⟩ :: rest) s K = vcOps (CallA P G) G [⟨dst, .lenS x, none⟩] s H (ThenD (CallA P G) G H rest K) := d_op P G s H K rest dst _ (by simp) (by simp) (by simp)
theorem dd_lenL (x : X) : vcDrw (CallA P G) G H (⟨dst, .lenL x, none⟩ :: rest) s K = vcOps (CallA P G) G [⟨dst, .lenL x, none⟩] s H (ThenD (CallA P G) G H rest K) := d_op P G s H K rest dst _ (by simp) (by simp) (by simp)
theorem dd_lenM (x : X) : vcDrw (CallA P G) G H (⟨dst, .lenM x, none⟩ :: rest) s K = vcOps (CallA P G) G [⟨dst, .lenM x, none⟩] s H (ThenD (CallA P G) G H rest K) := d_op P G s H K rest dst _ (by simp) (by simp) (by simp)
theorem dd_app (e : TypeId) (s0 bytes : Nat) (x y : X) : vcDrw (CallA P G) G H (⟨dst, .app e s0 bytes x y, none⟩ :: rest) s K = vcOps (CallA P G) G [⟨dst, .app e s0 bytes x y, none⟩] s H (ThenD (CallA P G) G H rest K) := d_op P G s H K rest dst _ (by simp) (by simp) (by simp)
theorem dd_slcA (n : Nat) (x : X) : vcDrw (CallA P G) G H (⟨dst, .slcA n x, none⟩ :: rest) s K = vcOps (CallA P G) G [⟨dst, .slcA n x, none⟩] s H (ThenD (CallA P G) G H rest K) := d_op P G s H K rest dst _ (by simp) (by simp) (by simp)
theorem dd_idxA (sz n : Nat) (agg : Bool) (x i : X) : vcDrw (CallA P G) G H (⟨dst, .idxA sz n agg x i, none⟩ :: rest) s K = vcOps (CallA P G) G [⟨dst, .idxA sz n agg x i, none⟩] s H (ThenD (CallA P G) G H rest K) := d_op P G s H K rest dst _ (by simp) (by simp) (by simp)
theorem dd_mput (kd : TypeDesc) (x k y : X) : vcDrw (CallA P G) G H (⟨dst, .mput kd x k y, none⟩ :: rest) s K = vcOps (CallA P G) G [⟨dst, .mput kd x k y, none⟩] s H (ThenD (CallA P G) G H rest K) := d_op P G s H K rest dst _ (by simp) (by simp) (by simp)
theorem dd_mget (kd : TypeDesc) (z : Value) (ok : Bool) (x k : X) : vcDrw (CallA P G) G H (⟨dst, .mget kd z ok x k, none⟩ :: rest) s K = vcOps (CallA P G) G [⟨dst, .mget kd z ok x k, none⟩] s H (ThenD (CallA P G) G H rest K) := d_op P G s H K rest dst _ (by simp) (by simp) (by simp)
theorem dd_rng (x : X) : vcDrw (CallA P G) G H (⟨dst, .rng x, none⟩ :: rest) s K = vcOps (CallA P G) G [⟨dst, .rng x, none⟩] s H (ThenD (CallA P G) G H rest K) := d_op P G s H K rest dst _ (by simp) (by simp) (by simp)
theorem dd_ent (x : X) : vcDrw (CallA P G) G H (⟨dst, .ent x, none⟩ :: rest) s K = vcOps (CallA P G) G [⟨dst, .ent x, none⟩] s H (ThenD (CallA P G) G H rest K) := d_op P G s H K rest dst _ (by simp) (by simp) (by simp)
def CallD (CA : CAt) (f : D) (args : List D) (H : List O) (K : D → Prop) (_w : Ph K := .mk) : Prop := match f with
  | .fn f caps => ∃ v, CA f (args ++ caps) H (fun d H' => d = v ∧ H' = H) ∧ K v
  | _ => False
@[congr] theorem CallD_congr {f f' : D} {args args' : List D} (CA : CAt) (H : List O) (K : D → Prop) (h : f = f') (k : args = args') : CallD CA f args H K = CallD CA f' args' H K := by rw [h, k]
theorem d_call (f : X) (args : List X) : vcDrw (CallA P G) G H (⟨dst, .call f args, none⟩ :: rest) s K = CallD (CallA P G) (f.val G s) (args.map (X.val G s)) H fun v => vcDrw (CallA P G) G H rest (DL.put s dst v) K := by
  simp only [vcDrw, vcOp]
  generalize f.val G s = d
  cases d <;> simp [CallD]
theorem callD_i {CA : CAt} {f : FuncId} {caps args : List D} {H : List O} {K : D → Prop} (v : D) (h : ∀ Q : D → List O → Prop, Q v H → CA f (args ++ caps) H Q) (k : K v) : CallD CA (.fn f caps) args H K := ⟨v, h _ ⟨rfl, rfl⟩, k⟩
theorem d_guard (op : DO) (g : Nat) (b : Bool) : vcDrw (CallA P G) G H (⟨dst, op, some (g, b)⟩ :: rest) s K =
    onG (s g) b (vcDrw (CallA P G) G H (⟨dst, op, none⟩ :: rest) (upd s g (.lit (.bool b))) K) (vcDrw (CallA P G) G H rest (DL.put (upd s g (.lit (.bool !b))) dst (.lit undef)) K) (vcDrw (CallA P G) G H rest (DL.put s dst (.lit undef)) K) := rfl
end
theorem vcOps_mono {P : Program} {G : Nat → D} {K K' : (Nat → D) → List O → Prop} (hk : ∀ s H, K s H → K' s H) : ∀ (ops : List DOp) (s : Nat → D) (H : List O), vcOps (CallA P G) G ops s H K → vcOps (CallA P G) G ops s H K'
  | [], s, H, h => hk _ _ h
  | ⟨dst, op, none⟩ :: rest, s, H, h => by
    cases op with
    | frz t => exact vcOps_mono hk rest _ _ h
    | _ => exact vcOp_mono (fun d H' q => vcOps_mono hk rest _ _ q) h
  | ⟨dst, op, some (g, b)⟩ :: rest, s, H, h => by
    by_cases hf : ∃ t, op = .frz t
    · obtain ⟨t, rfl⟩ := hf; exact vcOps_mono hk rest _ _ h
    · rw [o_guard _ _ _ _ _ _ _ _ _ _ (fun t ht => hf ⟨t, ht⟩)] at h ⊢
      simp only [onG] at h ⊢
      split at h
      · exact ⟨fun q => vcOps_mono hk (⟨dst, op, none⟩ :: rest) _ _ (h.1 q), fun q => vcOps_mono hk rest _ _ (h.2 q)⟩
      · exact vcOps_mono hk rest _ _ h
      · exact h
termination_by ops => (ops.map fun o => if o.guard.isSome then 2 else 1).sum
decreasing_by all_goals (simp_wf <;> omega)
theorem vcDrw_mono {P : Program} {G : Nat → D} {K K' : (Nat → D) → Prop} {H : List O} (hk : ∀ s, K s → K' s) : ∀ (ops : List DOp) (s : Nat → D), vcDrw (CallA P G) G H ops s K → vcDrw (CallA P G) G H ops s K'
  | [], s, h => hk _ h
  | ⟨dst, op, none⟩ :: rest, s, h => by
    obtain ⟨v, h1, h2⟩ := h
    exact ⟨v, h1, vcDrw_mono hk rest _ h2⟩
  | ⟨dst, op, some (g, b)⟩ :: rest, s, h => by
    simp only [vcDrw] at h ⊢
    split at h
    · exact ⟨fun q => by obtain ⟨v, h1, h2⟩ := h.1 q; exact ⟨v, h1, vcDrw_mono hk rest _ h2⟩, fun q => vcDrw_mono hk rest _ (h.2 q)⟩
    · exact vcDrw_mono hk rest _ h
    · exact h
theorem vc_mono {P : Program} {G : Nat → D} : ∀ {d : DC} {s : Nat → D} {H : List O} {Q Q' : Exit → (Nat → D) → List O → Prop}, (∀ x s H, Q x s H → Q' x s H) → vc (CallA P G) G d s H Q → vc (CallA P G) G d s H Q' := by
  intro d
  induction d with
  | skip => intro s H Q Q' hq h; exact hq _ _ _ h
  | own gs => intro s H Q Q' hq h; exact vcGh_mono (fun s H q => hq _ _ _ q) _ _ _ h
  | ret => intro s H Q Q' hq h; exact hq _ _ _ h
  | exit id => intro s H Q Q' hq h; exact hq _ _ _ h
  | reg ops => intro s H Q Q' hq h; exact vcOps_mono (fun s H q => hq _ _ _ q) _ _ _ h
  | drw ops => intro s H Q Q' hq h; exact vcDrw_mono (fun s q => hq _ _ _ q) _ _ h
  | frz ts a ih => intro s H Q Q' hq h; exact vcFrz_mono (fun s H q => ih hq q) _ _ _ h
  | seq a b iha ihb =>
    intro s H Q Q' hq h
    refine iha (fun x s H q => ?_) h
    cases x <;> first | exact ihb hq q | exact hq _ _ _ q
  | cond c a b iha ihb =>
    intro s H Q Q' hq h
    simp only [vc] at h ⊢
    split at h
    · exact ⟨fun q => iha hq (h.1 q), fun q => ihb hq (h.2 q)⟩
    · exact h
  | block id a iha =>
    intro s H Q Q' hq h
    refine iha (fun x s H q => ?_) h
    cases x with
    | exit i =>
      simp only at q ⊢
      split at q
      · rename_i e; rw [if_pos e]; exact hq _ _ _ q
      · rename_i e; rw [if_neg e]; exact hq _ _ _ q
    | _ => exact hq _ _ _ q
  | loop a iha =>
    intro s H Q Q' hq h
    obtain ⟨I, μ, h1, h2⟩ := h
    refine ⟨I, μ, h1, fun s' H' hI => iha (fun x s H q => ?_) (h2 s' H' hI)⟩
    cases x <;> first | exact q | exact hq _ _ _ q
  | scope a iha =>
    intro s H Q Q' hq h
    refine iha (fun x s H q => ?_) h
    cases x <;> first | exact q | exact hq _ _ _ q
def onNilS (d : D) (A : Prop) (_w : Ph A := .mk) : Prop := d = .lit (.slice none 0 0) ∧ A
@[congr] theorem onNilS_congr {d d' : D} (A : Prop) (h : d = d') : onNilS d A = onNilS d' A := by rw [h]
theorem nilS_n (A : Prop) : onNilS (.lit (.slice none 0 0)) A = A := by simp [onNilS]
def onBoxP (d : D) (H : List O) (K : Nat → TypeId → List D → Prop) (_w : Ph K := .mk) : Prop := match d with
  | .ptr id 0 => onBox H[id]? fun e ys => K id e ys
  | _ => False
@[congr] theorem onBoxP_congr {d d' : D} (H : List O) (K : Nat → TypeId → List D → Prop) (h : d = d') : onBoxP d H K = onBoxP d' H K := by rw [h]
theorem boxP_p (id : Nat) (H : List O) (K : Nat → TypeId → List D → Prop) : onBoxP (.ptr id 0) H K = onBox H[id]? fun e ys => K id e ys := rfl
def onElS (o : Option D) (A : Prop) (_w : Ph A := .mk) : Prop := o = some (.lit (.slice none 0 0)) ∧ A
@[congr] theorem onElS_congr {d d' : Option D} (A : Prop) (h : d = d') : onElS d A = onElS d' A := by rw [h]
theorem elS_n (A : Prop) : onElS (some (.lit (.slice none 0 0))) A = A := by simp [onElS]
theorem gh_nil (s : Nat → D) (H : List O) (K : (Nat → D) → List O → Prop) : vcGh [] s H K = K s H := rfl
theorem gh_own (t : Nat) (e : TypeId) (sz : Nat) (gs : List Gh) (s : Nat → D) (H : List O) (K : (Nat → D) → List O → Prop) : vcGh (.own t e sz :: gs) s H K = onNilS (s t) (0 < sz ∧ vcGh gs (upd s t (.row H.length 0)) (H ++ [.row true 0 e sz []]) K) := rfl
theorem gh_ownb (t j : Nat) (e : TypeId) (sz : Nat) (gs : List Gh) (s : Nat → D) (H : List O) (K : (Nat → D) → List O → Prop) : vcGh (.ownb t j e sz :: gs) s H K = onBoxP (s t) H fun id e' ys => onElS ys[j]? (0 < sz ∧ vcGh gs s (H.set id (.box e' (ys.set j (.row H.length 0))) ++ [.row true 0 e sz []]) K) := by
  simp only [vcGh, onBoxP, onBox, onElS]
  apply propext
  constructor
  · rintro ⟨id, e', ys, h1, h2, h3, h4, h5⟩
    rw [h1]; simp only [h2]; exact ⟨h3, h4, h5⟩
  · intro h
    split at h
    · rename_i id hs
      split at h
      · rename_i e' ys ho
        exact ⟨id, e', ys, hs, ho, h.1, h.2.1, h.2.2⟩
      · exact h.elim
    · exact h.elim
def onElRow (o : Option D) (H : List O) (K : Nat → Nat → Bool → Nat → TypeId → Nat → List D → Prop) (_w : Ph K := .mk) : Prop := match o with
  | some (.row i v) => onRow H[i]? fun x v' e sz xs => K i v x v' e sz xs
  | _ => False
@[congr] theorem onElRow_congr {o o' : Option D} (H : List O) (K : Nat → Nat → Bool → Nat → TypeId → Nat → List D → Prop) (h : o = o') : onElRow o H K = onElRow o' H K := by rw [h]
theorem elRow_r (i v : Nat) (H : List O) (K : Nat → Nat → Bool → Nat → TypeId → Nat → List D → Prop) : onElRow (some (.row i v)) H K = onRow H[i]? fun x v' e sz xs => K i v x v' e sz xs := rfl
theorem gh_frz (t : Nat) (gs : List Gh) (s : Nat → D) (H : List O) (K : (Nat → D) → List O → Prop) : vcGh (.frz t :: gs) s H K = vcOps (fun _ _ _ _ => False) (fun _ => .junk) [⟨none, .frz t, none⟩] s H (fun s' H' => vcGh gs s' H' K) := rfl
theorem gh_frzb (t j : Nat) (gs : List Gh) (s : Nat → D) (H : List O) (K : (Nat → D) → List O → Prop) : vcGh (.frzb t j :: gs) s H K = onBoxP (s t) H fun id e' ys => onElRow ys[j]? H fun i v x v' e sz xs => v' = v ∧ vcGh gs s ((H.set i (.row false v e sz xs)).set id (.box e' (ys.set j (.sl xs)))) K := by
  simp only [vcGh, onBoxP, onBox, onElRow, onRow]
  apply propext
  constructor
  · rintro ⟨id, e', ys, i, v, x, e, sz, xs, h1, h2, h3, h4, h5⟩
    rw [h1]; simp only [h2, h3, h4]; exact ⟨trivial, h5⟩
  · intro h
    split at h
    · rename_i id hs
      split at h
      · rename_i e' ys ho
        split at h
        · rename_i i v hy
          split at h
          · rename_i x v' e sz xs hi
            obtain ⟨rfl, h⟩ := h
            exact ⟨id, e', ys, i, v', x, e, sz, xs, hs, ho, hy, hi, h⟩
          · exact h.elim
        · exact h.elim
      · exact h.elim
    · exact h.elim
section
variable (CA : CAt) (G : Nat → D) (s : Nat → D) (H : List O) (Q : Exit → (Nat → D) → List O → Prop)
@[congr] theorem vc_congr {d d' : DC} (h : d = d') : vc CA G d s H Q = vc CA G d' s H Q := by rw [h]
def regQ (Q : Exit → (Nat → D) → List O → Prop) : (Nat → D) → List O → Prop := fun s H => Q .normal s H
def drwQ (Q : Exit → (Nat → D) → List O → Prop) (H : List O) : (Nat → D) → Prop := fun s => Q .normal s H
def seqQ (CA : CAt) (G : Nat → D) (b : DC) (Q : Exit → (Nat → D) → List O → Prop) : Exit → (Nat → D) → List O → Prop := fun x s' H' => match x with
  | .normal => vc CA G b s' H' Q
  | x => Q x s' H'
def blkQ (id : Nat) (Q : Exit → (Nat → D) → List O → Prop) : Exit → (Nat → D) → List O → Prop := fun x s' H' => match x with
  | .exit i => if i = id then Q .normal s' H' else Q (.exit i) s' H'
  | x => Q x s' H'
def loopQ (I : (Nat → D) → List O → Prop) (μ : (Nat → D) → List O → Nat) (m : Nat) (Q : Exit → (Nat → D) → List O → Prop) : Exit → (Nat → D) → List O → Prop := fun x s'' H'' => match x with
  | .normal => I s'' H'' ∧ μ s'' H'' < m
  | x => Q x s'' H''
theorem regQ_app : regQ Q s H = Q .normal s H := rfl
theorem drwQ_app : drwQ Q H s = Q .normal s H := rfl
theorem seqQ_n (b : DC) : seqQ CA G b Q .normal s H = vc CA G b s H Q := rfl
theorem seqQ_r (b : DC) : seqQ CA G b Q .ret s H = Q .ret s H := rfl
theorem seqQ_e (b : DC) (id : Nat) : seqQ CA G b Q (.exit id) s H = Q (.exit id) s H := rfl
theorem blkQ_n (id : Nat) : blkQ id Q .normal s H = Q .normal s H := rfl
theorem blkQ_r (id : Nat) : blkQ id Q .ret s H = Q .ret s H := rfl
theorem blkQ_e (id i : Nat) : blkQ id Q (.exit i) s H = if i = id then Q .normal s H else Q (.exit i) s H := rfl
theorem loopQ_n (I : (Nat → D) → List O → Prop) (μ : (Nat → D) → List O → Nat) (m : Nat) : loopQ I μ m Q .normal s H = (I s H ∧ μ s H < m) := rfl
theorem loopQ_r (I : (Nat → D) → List O → Prop) (μ : (Nat → D) → List O → Nat) (m : Nat) : loopQ I μ m Q .ret s H = Q .ret s H := rfl
theorem loopQ_e (I : (Nat → D) → List O → Prop) (μ : (Nat → D) → List O → Nat) (m id : Nat) : loopQ I μ m Q (.exit id) s H = Q (.exit id) s H := rfl
theorem c_skip : vc CA G .skip s H Q = Q .normal s H := rfl
theorem c_reg (ops : List DOp) : vc CA G (.reg ops) s H Q = vcOps CA G ops s H (regQ Q) := rfl
theorem c_drw (ops : List DOp) : vc CA G (.drw ops) s H Q = vcDrw CA G H ops s (drwQ Q H) := rfl
theorem c_own (gs : List Gh) : vc CA G (.own gs) s H Q = vcGh gs s H (regQ Q) := rfl
theorem c_frz0 (a : DC) : vc CA G (.frz [] a) s H Q = vc CA G a s H Q := rfl
theorem c_frz1 (t : Nat) (ts : List Nat) (a : DC) : vc CA G (.frz (t :: ts) a) s H Q = vcOps CA G [⟨none, .frz t, none⟩] s H (fun s' H' => vc CA G (.frz ts a) s' H' Q) := rfl
theorem c_seq (a b : DC) : vc CA G (.seq a b) s H Q = vc CA G a s H (seqQ CA G b Q) := by
  simp only [vc]
  congr 1
theorem c_cond (c : X) (a b : DC) : vc CA G (.cond c a b) s H Q = onB (c.val G s) (vc CA G a s H Q) (vc CA G b s H Q) := rfl
theorem c_block (id : Nat) (a : DC) : vc CA G (.block id a) s H Q = vc CA G a s H (blkQ id Q) := by
  simp only [vc]
  congr 1
theorem c_exit (id : Nat) : vc CA G (.exit id) s H Q = Q (.exit id) s H := rfl
def scopeQ (Q : Exit → (Nat → D) → List O → Prop) : Exit → (Nat → D) → List O → Prop := fun x s' H' => match x with
  | .goto _ => False
  | x => Q x s' H'
theorem scopeQ_n : scopeQ Q .normal s H = Q .normal s H := rfl
theorem scopeQ_r : scopeQ Q .ret s H = Q .ret s H := rfl
theorem scopeQ_e (id : Nat) : scopeQ Q (.exit id) s H = Q (.exit id) s H := rfl
theorem c_scope (a : DC) : vc CA G (.scope a) s H Q = vc CA G a s H (scopeQ Q) := by
  simp only [vc]
  congr 1
theorem c_ret : vc CA G .ret s H Q = Q .ret s H := rfl
def Loop (CA : CAt) (G : Nat → D) (a : DC) (s : Nat → D) (H : List O) (Q : Exit → (Nat → D) → List O → Prop) (_w : Ph Q := .mk) : Prop :=
  ∃ (I : (Nat → D) → List O → Prop) (μ : (Nat → D) → List O → Nat), I s H ∧ ∀ s' H', I s' H' → vc CA G a s' H' (loopQ I μ (μ s' H') Q)
@[congr] theorem Loop_congr (a : DC) {s s' : Nat → D} {H H' : List O} (h : s = s') (k : H = H') : Loop CA G a s H Q = Loop CA G a s' H' Q := by rw [h, k]
theorem c_loop (a : DC) : vc CA G (.loop a) s H Q = Loop CA G a s H Q := by
  simp only [vc, Loop]
  congr 1
theorem loop_i {CA : CAt} {G : Nat → D} {a : DC} {s : Nat → D} {H : List O} {Q : Exit → (Nat → D) → List O → Prop} (I : (Nat → D) → List O → Prop) (μ : (Nat → D) → List O → Nat) (h : I s H) (k : ∀ s' H', I s' H' → vc CA G a s' H' (loopQ I μ (μ s' H') Q)) : Loop CA G a s H Q := ⟨I, μ, h, k⟩
end
def D.toN : D → Nat
  | .lit (.int _ n) => n.toNat
  | _ => 0
def forQ (t n k : Nat) (I : Nat → (Nat → D) → List O → Prop) (Q : Exit → (Nat → D) → List O → Prop) : Exit → (Nat → D) → List O → Prop := fun x s'' H'' => match x with
  | .normal => k < n ∧ s'' t = .lit (.int .i64 ((k : Int) + 1)) ∧ I (k + 1) s'' H''
  | x => Q x s'' H''
section
variable (t n k : Nat) (I : Nat → (Nat → D) → List O → Prop) (Q : Exit → (Nat → D) → List O → Prop) (s : Nat → D) (H : List O)
theorem forQ_n : forQ t n k I Q .normal s H = (k < n ∧ s t = .lit (.int .i64 ((k : Int) + 1)) ∧ I (k + 1) s H) := rfl
theorem forQ_r : forQ t n k I Q .ret s H = Q .ret s H := rfl
theorem forQ_e (id : Nat) : forQ t n k I Q (.exit id) s H = Q (.exit id) s H := rfl
end
theorem for_i {P : Program} {G : Nat → D} {a : DC} {s : Nat → D} {H : List O} {Q : Exit → (Nat → D) → List O → Prop} (t n : Nat) (I : Nat → (Nat → D) → List O → Prop) (h0 : s t = .lit (.int .i64 0)) (h : I 0 s H)
    (st : ∀ k s' H', k ≤ n → s' t = .lit (.int .i64 k) → I k s' H' → vc (CallA P G) G a s' H' (forQ t n k I Q)) : Loop (CallA P G) G a s H Q := by
  refine loop_i (fun s' H' => ∃ k, k ≤ n ∧ s' t = .lit (.int .i64 (k : Int)) ∧ I k s' H') (fun s' _ => n - (s' t).toN) ⟨0, Nat.zero_le _, h0, h⟩ ?_
  rintro s' H' ⟨k, hk, ht, hI⟩
  refine vc_mono ?_ (st k s' H' hk ht hI)
  intro x s'' H'' hx
  cases x with
  | normal =>
    obtain ⟨h1, h2, h3⟩ := hx
    refine ⟨⟨k + 1, h1, by rw [h2]; simp, h3⟩, ?_⟩
    simp only [ht, h2, D.toN]
    omega
  | _ => exact hx
def retK (rs : List RV) (Q : D → List O → Prop) : Exit → (Nat → D) → List O → Prop := fun x s' H' => match x with
  | .normal => vcRes rs s' H' fun ds' => Q (resD ds') H'
  | .ret => vcRes rs s' H' fun ds' => Q (resD ds') H'
  | _ => False
theorem retK_n (rs : List RV) (Q : D → List O → Prop) (s : Nat → D) (H : List O) : retK rs Q .normal s H = vcRes rs s H fun ds' => Q (resD ds') H := rfl
theorem retK_r (rs : List RV) (Q : D → List O → Prop) (s : Nat → D) (H : List O) : retK rs Q .ret s H = vcRes rs s H fun ds' => Q (resD ds') H := rfl
theorem res_nil (s : Nat → D) (H : List O) (K : List D → Prop) : vcRes [] s H K = K [] := rfl
theorem res_tmp (t : Nat) (rs : List RV) (s : Nat → D) (H : List O) (K : List D → Prop) : vcRes (.tmp t :: rs) s H K = vcRes rs s H fun ds => K (s t :: ds) := rfl
def onCell (d : D) (H : List O) (K : List D → Nat → Prop) (_w : Ph K := .mk) : Prop := match d with
  | .ptr id off => onBox H[id]? fun _ ys => K ys off
  | _ => False
@[congr] theorem onCell_congr {d d' : D} (H : List O) (K : List D → Nat → Prop) (h : d = d') : onCell d H K = onCell d' H K := by rw [h]
theorem cell_ptr (id off : Nat) (H : List O) (K : List D → Nat → Prop) : onCell (.ptr id off) H K = onBox H[id]? fun _ ys => K ys off := rfl
theorem res_cell (t n : Nat) (agg : Bool) (rs : List RV) (s : Nat → D) (H : List O) (K : List D → Prop) : vcRes (.cell t n agg :: rs) s H K = onCell (s t) H fun ys off => off + n ≤ ys.length ∧ vcRes rs s H fun ds => K (mkD agg ((ys.drop off).take n) :: ds) := by
  show (match s t with | .ptr id off => _ | _ => _) = _
  generalize s t = d
  cases d with
  | ptr id off =>
    first
    | (simp only [onCell, onBox]; done)
    | (simp only [onCell, onBox]
       cases H[id]? with
       | none => rfl
       | some o => cases o <;> rfl)
  | _ => rfl
theorem resD_one (d : D) : resD [d] = d := rfl
theorem resD_two (d e : D) (ds : List D) : resD (d :: e :: ds) = .tup (d :: e :: ds) := rfl
theorem resD_nil : resD [] = .tup [] := rfl
theorem mk_t (ys : List D) : mkD true ys = .agg ys := rfl
theorem mk_f (y : D) (ys : List D) : mkD false (y :: ys) = y := rfl
theorem lv_lit (v : Value) : (D.lit v).leaves = [.lit v] := rfl
theorem lv_agg (ys : List D) : (D.agg ys).leaves = ys := rfl
theorem lv_sl (ys : List D) : (D.sl ys).leaves = [.sl ys] := rfl
theorem lv_row (i v : Nat) : (D.row i v).leaves = [.row i v] := rfl
theorem lv_ptr (i v : Nat) : (D.ptr i v).leaves = [.ptr i v] := rfl
theorem lv_mp (i : Nat) : (D.mp i).leaves = [.mp i] := rfl
theorem lv_fn (f : FuncId) (c : List D) : (D.fn f c).leaves = [.fn f c] := rfl
theorem wh_agg (ys : List D) : (D.agg ys).whole = True := eq_true (.inr ⟨ys, rfl⟩)
theorem wh_sl (ys : List D) : (D.sl ys).whole = True := eq_true (.inl rfl)
theorem wh_row (i v : Nat) : (D.row i v).whole = True := eq_true (.inl rfl)
theorem wh_str (b : ByteArray) : (D.lit (.string b)).whole = True := eq_true (.inl rfl)
theorem wh_int (k : IntKind) (b : Int) : (D.lit (.int k b)).whole = True := eq_true (.inl rfl)
theorem wh_bool (b : Bool) : (D.lit (.bool b)).whole = True := eq_true (.inl rfl)
theorem wh_nil : (D.lit (.slice none 0 0)).whole = True := eq_true (.inl rfl)
theorem get_own (H Gs : List O) (id : Nat) : (H ++ Gs)[H.length + id]? = Gs[id]? := by rw [List.getElem?_append_right (by omega)]; congr 1; omega
theorem get_own0 (H Gs : List O) : (H ++ Gs)[H.length]? = Gs[0]? := get_own H Gs 0
theorem set_own (H Gs : List O) (id : Nat) (o : O) : (H ++ Gs).set (H.length + id) o = H ++ Gs.set id o := by rw [List.set_append_right _ _ (by omega)]; congr 2; omega
theorem set_own0 (H Gs : List O) (o : O) : (H ++ Gs).set H.length o = H ++ Gs.set 0 o := set_own H Gs 0 o
theorem len_own (H Gs : List O) : (H ++ Gs).length = H.length + Gs.length := List.length_append
theorem wrap_id {n : Int} (h0 : -9223372036854775808 ≤ n) (h1 : n ≤ 9223372036854775807) : IntKind.i64.wrap n = n := by
  exact IntWalk.i64_in (by omega) (by omega)
end Go.DL
set_option linter.unusedVariables false
namespace Go.DL
open Go
theorem RelH.fresh {F : Frm} {c : Conc} {H : List O} {w w' : World} (h : RelH F c H w) (hb : _root_.Go.RowKit.Below w.heap.size w w') : RelH F c H w' := by
  refine h.step none H.length ⟨hb.os, hb.tape, hb.output, hb.size, fun k hk _ => hb.block k hk⟩ (fun b q => by cases q) (Ext.refl _ _) (fun _ _ _ => rfl) (fun _ _ => rfl) (fun a v q => .inl q) (fun a v _ q => by cases q) ?_ ?_ ?_
  · intro o ho; rw [List.getElem?_eq_none (Nat.le_refl _)] at ho; cases ho
  · intro b hb; omega
  · intro ver es hm; rw [List.getElem?_eq_none (Nat.le_refl _)] at hm; cases hm
theorem CallA.lits {P : Program} {G : Nat → D} {f : FuncId} {H : List O} {Q : D → List O → Prop} (hc : Callable P f) (args : List Value) (W : World → Prop)
    (hW : ∀ F c w, RelH F c H w → (∀ g, RdV c H (G g) (.pointer (some ⟨g, 0, none⟩))) → W w)
    (h : ∀ w, W w → Calls P f args.toArray w fun e w' => ∃ v d, e = .returned v ∧ (∀ c H, RdV c H d v) ∧ _root_.Go.RowKit.Below w.heap.size w w' ∧ Q d H) : CallA P G f (args.map .lit) H Q := by
  refine ⟨hc, fun F c w vs h1 h2 h3 h4 => ?_⟩
  have e : vs = args.toArray := by
    apply Array.ext
    · simpa using h3
    · intro i hi hi'
      have hi2 : i < args.length := by simpa using hi'
      have := h4 i (by simpa using hi2)
      rw [List.getElem_map] at this
      have e1 : vs.getD i undef = vs[i] := by simp [Array.getD, hi]
      rw [e1] at this
      generalize vs[i] = u at this
      cases this
      simp
  rw [e]
  refine (h w (hW F c w h1 h2)).mono ?_
  rintro e w' ⟨v, d, rfl, k1, k2, k3⟩
  exact ⟨v, d, c, H, rfl, h1.fresh k2, Ext.refl _ _, k1 _ _, k3⟩
theorem RdV.cell {F : Frm} {c : Conc} {H : List O} {w : World} (h : RelH F c H w) {ys : List D} {ad : Addr} (hg : RdV c H (.el ys) (.pointer (some ad))) (i : Nat) (hi : i < ys.length) : ∃ v, w.cell? (ad.add i) = some v ∧ RdV c H (ys[i]'hi) v := by
  cases hg with
  | el _ _ vs h1 hΦ hr => exact ⟨vs i, h.good _ _ (hΦ i hi), hr i hi⟩
def str (l : List UInt8) : ByteArray := ⟨l.toArray⟩
theorem str_mk (l : List UInt8) : ByteArray.mk l.toArray = str l := rfl
theorem str_size (l : List UInt8) : (str l).size = l.length := by simp [str, ByteArray.size]
theorem str_list (l : List UInt8) : (str l).data.toList = l := by simp [str]
theorem str_of (b : ByteArray) : b = str b.data.toList := by cases b; simp [str]
theorem str_app (l m : List UInt8) : str l ++ str m = str (l ++ m) := by
  apply ByteArray.ext; simp [str]
theorem str_inj {l m : List UInt8} : str l = str m ↔ l = m := ⟨fun h => by rw [← str_list l, h, str_list], fun h => by rw [h]⟩
theorem str_get (l : List UInt8) (i : Nat) : (str l)[i]? = l[i]? := by
  by_cases h : i < l.length
  · have h' : i < (str l).size := by rw [str_size]; exact h
    rw [getElem?_pos (str l) i h', List.getElem?_eq_getElem h]
    simp [str, ByteArray.getElem_eq_getElem_data]
  · have h' : ¬ i < (str l).size := by rw [str_size]; exact h
    rw [getElem?_neg (str l) i h', List.getElem?_eq_none (by omega)]
theorem str_extract (l : List UInt8) (i j : Nat) : (str l).extract i j = str ((l.drop i).take (j - i)) := by
  rw [Lib.extract_eq, str_list]; rfl
theorem toList_inj {a b : ByteArray} : a.toList = b.toList ↔ a = b := by
  constructor
  · intro h
    have : a.data.toList = b.data.toList := by simpa [ByteArray.toList_eq] using h
    rw [str_of a, str_of b, this]
  · intro h; rw [h]
theorem str_beq (l m : List UInt8) : ((str l).toList == (str m).toList) = (l == m) := by
  rw [Bool.eq_iff_iff, beq_iff_eq, beq_iff_eq, toList_inj, str_inj]
end Go.DL
set_option linter.unusedVariables false
set_option linter.unusedSimpArgs false
namespace Go.DL
open Go
def Deep (H : List O) (d d' : D) : Prop := ∀ (F : Frm) (c : Conc) (w : World) (v : Value), RelH F c H w → RdV c H d v → RdV c H d' v
theorem Deep.refl (H : List O) (d : D) : Deep H d d := fun _ _ _ _ _ h => h
theorem Deep.agg {H : List O} {xs xs' : List D} (hl : xs'.length = xs.length) (h1 : ∀ z ∈ xs', z.one = true) (h : ∀ i (q : i < xs.length), Deep H (xs[i]'q) (xs'[i]'(hl ▸ q))) : Deep H (.agg xs) (.agg xs') := by
  intro F c w v hr hv
  cases hv with
  | agg _ cs k1 k2 k3 => exact .agg _ _ (by omega) (fun i q => h1 _ (List.getElem_mem _)) fun i q => h i (hl ▸ q) F c w _ hr (k3 i _)
theorem Deep.tup {H : List O} {xs xs' : List D} (hl : xs'.length = xs.length) (h : ∀ i (q : i < xs.length), Deep H (xs[i]'q) (xs'[i]'(hl ▸ q))) : Deep H (.tup xs) (.tup xs') := by
  intro F c w v hr hv
  cases hv with
  | tup _ cs k1 k3 => exact .tup _ _ (by omega) fun i q => h i (hl ▸ q) F c w _ hr (k3 i _)
theorem Deep.sl {H : List O} {xs xs' : List D} (hl : xs'.length = xs.length) (hn : ∀ i (q : i < xs.length), (xs'[i]'(hl ▸ q)).leaves.length = (xs[i]'q).leaves.length) (h1 : ∀ y ∈ xs', ∀ z ∈ y.leaves, z.one = true)
    (h : ∀ i (q : i < xs.length) j (p : j < (xs[i]'q).leaves.length), Deep H ((xs[i]'q).leaves[j]'p) ((xs'[i]'(hl ▸ q)).leaves[j]'(by rw [hn i q]; exact p))) : Deep H (.sl xs) (.sl xs') := by
  intro F c w v hr hv
  cases hv with
  | sl _ a ad cap s vs hcap ha hs k1 hΦ hrd =>
    rw [← hl]
    refine .sl xs' a ad cap s vs (by omega) (fun q => ha (by omega)) (fun j q => ?_) (fun j q i p => h1 _ (List.getElem_mem _) _ (List.getElem_mem _)) (fun j q i p => ?_) (fun j q i p => ?_)
    · rw [hn j (hl ▸ q)]; exact hs j _
    · exact hΦ j (hl ▸ q) i (by rw [← hn j (hl ▸ q)]; exact p)
    · exact h j (hl ▸ q) i (by rw [← hn j (hl ▸ q)]; exact p) F c w _ hr (hrd j _ i _)
theorem Deep.trans {H : List O} {d d' d'' : D} (h : Deep H d d') (k : Deep H d' d'') : Deep H d d'' := fun F c w v hr hv => k F c w v hr (h F c w v hr hv)
def frzAll (H : List O) : List O := H.map fun o => match o with
  | .row _ ver e s xs => .row false ver e s xs
  | o => o
theorem Deep.row {H : List O} {id ver : Nat} {e : TypeId} {s : Nat} {xs : List D} (ho : H[id]? = some (.row false ver e s xs)) : Deep H (.row id ver) (.sl xs) := by
  intro F c w v hr hv
  obtain ⟨c', h1, h2, h3⟩ := hr.freeze ho
  have hid : id < H.length := (List.getElem?_eq_some_iff.1 ho).1
  cases hv with
  | row _ _ sz ob a n cap hob hk hver he =>
    rw [ho] at hob
    cases hob
    have hκ := he rfl
    rw [hκ]
    obtain ⟨h0, g1, cells, hown, g2, g3⟩ := hr.objs id _ ho
    rcases hown.2 with ⟨hnil, hz⟩ | ⟨g, cap', cur, hv, _, hh, hle, hmax, hsz, htake⟩
    · have hx : xs = [] := List.eq_nil_of_length_eq_zero hz
      subst hx
      rw [hnil]
      exact .sl [] none ⟨0, 0, none⟩ 0 s (fun _ _ => undef) (Nat.le_refl _) (fun hp => by simp at hp) (fun j hj => by simp at hj) (fun j hj => by simp at hj) (fun j hj => by simp at hj) (fun j hj => by simp at hj)
    · have hg : blk (c.κ id) = some g := by rw [hv]; rfl
      obtain ⟨_, h5⟩ := g3 g hg
      have hcl : cells.length = xs.length * s := hown.1
      have hfl : (flat xs).length = xs.length * s := flat_length fun y hy => (g1 y hy).1
      rw [hv]
      refine .sl xs (some ⟨g, 0, none⟩) ⟨g, 0, none⟩ cap' s (fun j i => cells.getD (j * s + i) undef) hle (fun _ => rfl) (fun j hj => (g1 _ (List.getElem_mem hj)).1) (fun j hj i hi => (g1 _ (List.getElem_mem hj)).2 _ (List.getElem_mem hi)) ?_ ?_
      · intro j hj i hi
        have hi' : i < s := by rw [← (g1 _ (List.getElem_mem hj)).1]; exact hi
        have hlt := idx_lt hj hi'
        have : ((⟨g, 0, none⟩ : Addr).add (j * s + i)) = ⟨g, j * s + i, none⟩ := by unfold Addr.add; split <;> simp_all
        rw [this, h5 rfl _ hlt, List.getElem?_eq_getElem (by omega), List.getD_eq_getElem?_getD, List.getElem?_eq_getElem (by omega)]
        rfl
      · intro j hj i hi
        have hi' : i < s := by rw [← (g1 _ (List.getElem_mem hj)).1]; exact hi
        have hlt := idx_lt hj hi'
        have hf := flat_get (fun y hy => (g1 y hy).1) j hj i hi
        have hk : j * s + i < (flat xs).length := by rw [hfl]; exact hlt
        rw [List.getElem?_eq_getElem hk] at hf
        have := g2 (j * s + i) hk
        rw [Option.some.inj hf] at this
        exact this
theorem RelH.frzTo {F : Frm} {w : World} : ∀ (n : Nat) {c : Conc} {H : List O}, RelH F c H w → ∃ c', RelH F c' (frzAll (H.take n) ++ H.drop n) w ∧ Ext c H c' (frzAll (H.take n) ++ H.drop n)
  | 0, c, H, h => ⟨c, by simpa [frzAll] using h, by simpa [frzAll] using Ext.refl c H⟩
  | n + 1, c, H, h => by
    obtain ⟨c', h1, h2⟩ := RelH.frzTo n h
    by_cases hn : n < H.length
    · have hd : H.drop n = H[n] :: H.drop (n + 1) := List.drop_eq_getElem_cons hn
      have ht : H.take (n + 1) = H.take n ++ [H[n]] := by rw [List.take_succ_eq_append_getElem hn]
      have hlen : (frzAll (H.take n)).length = n := by simp [frzAll]; omega
      have hget : (frzAll (H.take n) ++ H.drop n)[n]? = some H[n] := by
        rw [List.getElem?_append_right (by omega), hlen, hd]; simp
      cases ho : H[n] with
      | row x ver e s xs =>
        rw [ho] at hget
        obtain ⟨c'', k1, k2, _⟩ := h1.freeze hget
        have hset : (frzAll (H.take n) ++ H.drop n).set n (.row false ver e s xs) = frzAll (H.take (n + 1)) ++ H.drop (n + 1) := by
          rw [List.set_append_right _ _ (by omega), hlen, hd, ht]
          simp [frzAll, ho]
        rw [hset] at k1 k2
        exact ⟨c'', k1, h2.trans k2⟩
      | _ =>
        have hsame : frzAll (H.take n) ++ H.drop n = frzAll (H.take (n + 1)) ++ H.drop (n + 1) := by
          rw [hd, ht]; simp [frzAll, ho]
        rw [← hsame]
        exact ⟨c', h1, h2⟩
    · have e1 : H.take (n + 1) = H.take n := by rw [List.take_of_length_le (by omega), List.take_of_length_le (by omega)]
      have e2 : H.drop (n + 1) = H.drop n := by rw [List.drop_of_length_le (by omega), List.drop_of_length_le (by omega)]
      rw [e1, e2]; exact ⟨c', h1, h2⟩
theorem RelH.frzAll {F : Frm} {w : World} {c : Conc} {H : List O} (h : RelH F c H w) : ∃ c', RelH F c' (frzAll H) w ∧ Ext c H c' (frzAll H) := by
  have := h.frzTo H.length
  simpa using this
theorem RelH.frzOwn {F : Frm} {w : World} {H : List O} : ∀ (n : Nat) {c : Conc} {Gs : List O}, RelH F c (H ++ Gs) w → ∃ c', RelH F c' (H ++ (DL.frzAll (Gs.take n) ++ Gs.drop n)) w ∧ Ext c (H ++ Gs) c' (H ++ (DL.frzAll (Gs.take n) ++ Gs.drop n))
  | 0, c, Gs, h => ⟨c, by simpa [DL.frzAll] using h, by simpa [DL.frzAll] using Ext.refl c (H ++ Gs)⟩
  | n + 1, c, Gs, h => by
    obtain ⟨c', h1, h2⟩ := RelH.frzOwn n h
    by_cases hn : n < Gs.length
    · have hd : Gs.drop n = Gs[n] :: Gs.drop (n + 1) := List.drop_eq_getElem_cons hn
      have ht : Gs.take (n + 1) = Gs.take n ++ [Gs[n]] := by rw [List.take_succ_eq_append_getElem hn]
      have hlen : (DL.frzAll (Gs.take n)).length = n := by simp [DL.frzAll]; omega
      have hget : (H ++ (DL.frzAll (Gs.take n) ++ Gs.drop n))[H.length + n]? = some Gs[n] := by
        rw [get_own, List.getElem?_append_right (by omega), hlen, hd]; simp
      cases ho : Gs[n] with
      | row x ver e s xs =>
        rw [ho] at hget
        obtain ⟨c'', k1, k2, _⟩ := h1.freeze hget
        have hset : (H ++ (DL.frzAll (Gs.take n) ++ Gs.drop n)).set (H.length + n) (.row false ver e s xs) = H ++ (DL.frzAll (Gs.take (n + 1)) ++ Gs.drop (n + 1)) := by
          rw [set_own, List.set_append_right _ _ (by omega), hlen, hd, ht]
          simp [DL.frzAll, ho]
        rw [hset] at k1 k2
        exact ⟨c'', k1, h2.trans k2⟩
      | _ =>
        have hsame : DL.frzAll (Gs.take n) ++ Gs.drop n = DL.frzAll (Gs.take (n + 1)) ++ Gs.drop (n + 1) := by
          rw [hd, ht]; simp [DL.frzAll, ho]
        rw [← hsame]
        exact ⟨c', h1, h2⟩
    · have e1 : Gs.take (n + 1) = Gs.take n := by rw [List.take_of_length_le (by omega), List.take_of_length_le (by omega)]
      have e2 : Gs.drop (n + 1) = Gs.drop n := by rw [List.drop_of_length_le (by omega), List.drop_of_length_le (by omega)]
      rw [e1, e2]; exact ⟨c', h1, h2⟩
theorem CallA.deep {P : Program} {G : Nat → D} {f : FuncId} {ds : List D} {H : List O} {Q : D → List O → Prop}
    (h : CallA P G f ds H fun d H' => ∃ Gs d', H' = H ++ Gs ∧ Deep (H ++ DL.frzAll Gs) d d' ∧ Below H.length d' ∧ Q d' H) : CallA P G f ds H Q := by
  refine ⟨h.1, fun F c w vs h1 h2 h3 h4 => (h.2 F c w vs h1 h2 h3 h4).mono ?_⟩
  rintro e w' ⟨v, d, c', H', rfl, k1, k2, k3, Gs, d', rfl, k4, k5, k6⟩
  obtain ⟨c'', j1, j2⟩ := k1.frzOwn Gs.length
  simp only [List.take_length, List.drop_length, List.append_nil] at j1 j2
  exact ⟨v, d', c'', H, rfl, j1.trunc h1.below, (k2.trans j2).trunc, (k4 F c'' w' v j1 (k3.ext j2)).trunc k5, k6⟩
end Go.DL
set_option linter.unusedVariables false
set_option linter.unusedSimpArgs false
namespace Go.DL
open Go
theorem idx_map {α : Type} {f : α → D} {l : List α} {k : Nat} (h : k < l.length) (K : D → Prop) : onIdx (l.map f) (k : Int) K = K (f (l[k]'h)) := by 
  apply propext
  constructor
  · rintro ⟨_, y, h1, h2⟩
    simp [h] at h1; subst h1; exact h2
  · intro hk; exact onIdx_i (by omega) (by simp [h]) hk
theorem idx_mapI {α : Type} {f : α → D} {l : List α} {n : Int} (h0 : 0 ≤ n) (h : n < l.length) (K : D → Prop) : onIdx (l.map f) n K = K (f (l[n.toNat]'(by omega))) := by 
  obtain ⟨k, rfl⟩ : ∃ k : Nat, n = k := ⟨n.toNat, by omega⟩
  rw [idx_map (by omega)]
  rfl
theorem byte_str {l : List UInt8} {k : Nat} (h : k < l.length) (K : UInt8 → Prop) : onByte (str l) (k : Int) K = K (l[k]'h) := by 
  apply propext
  constructor
  · rintro ⟨_, y, h1, h2⟩
    simp [str_get, h] at h1; subst h1; exact h2
  · intro hk; exact onByte_i (by omega) (by simp [str_get, h]) hk
theorem byte_strI {l : List UInt8} {n : Int} (h0 : 0 ≤ n) (h : n < l.length) (K : UInt8 → Prop) : onByte (str l) n K = K (l[n.toNat]'(by omega)) := by 
  obtain ⟨k, rfl⟩ : ∃ k : Nat, n = k := ⟨n.toNat, by omega⟩
  rw [byte_str (by omega)]
  rfl
theorem len_map {α : Type} (f : α → D) (l : List α) : (l.map f).length = l.length := List.length_map f
theorem allmem_nil (p : X → Prop) : (∀ x, x ∈ ([] : List X) → p x) = True := by simp
theorem allmem_nil2 (p : Nat × Nat × X → Prop) : (∀ x, x ∈ ([] : List (Nat × Nat × X)) → p x) = True := by simp
theorem allmem_nilD (p : D → Prop) : (∀ x, x ∈ ([] : List D) → p x) = True := by simp
theorem fill_nil (z : List D) : fillD z [] = z := rfl
theorem fill_cons (z ys : List D) (off : Nat) (rest : List (Nat × List D)) : fillD z ((off, ys) :: rest) = fillD (z.take off ++ ys ++ z.drop (off + ys.length)) rest := rfl
theorem wrap_byte (b : UInt8) : IntKind.i64.wrap (b.toNat : Int) = b.toNat := by 
  have := b.toNat_lt
  exact wrap_id (by omega) (by omega)
theorem byte_zero (b : UInt8) (r : List UInt8) (K : UInt8 → Prop) : onByte (str (b :: r)) 0 K = K b := by 
  have : (0 : Int) = ((0 : Nat) : Int) := rfl
  rw [this, byte_str (by simp)]; rfl
theorem Deep.same {H : List O} {d : D} : Deep H d d := Deep.refl H d
end Go.DL
