/- Part of a proof of the statement Round; what it needs in which order stands in GOCLAIM.json. -/
import Derived.Lib.AppendStr
import Derived.Lib.UnsafeStr
import Derived.Laws.Tables
import Derived.Maps.RangeRun
import Derived.Laws.BytesString
import Derived.Orders
import Derived.Test.YtoehhfhjnjfgiaaDoorRoundA
set_option linter.unusedVariables false
set_option linter.unusedSimpArgs false
namespace Go.DL
open Go
section
variable {P : Program} {G : Nat → D} {o : Oper} {s : Nat → D} {H : List O} {K : D → List O → Prop}
theorem sound_app {t : TypeId} {x y : Operand} {x' y' : X} {e : TypeId} {i : TypeInfo} {z : Value} (ho : o.op = .call { callee := .builtin .append, args := #[x, y], argTypes := #[t, t] }) (hx : Operand.toX x = some x') (hy : Operand.toX y = some y')
    (ht : P.underlying t = some (.slice e)) (hi : P.info? e = some i) (hz : i.zero = some z) (hzs : z.cells.size = i.size) (h0 : 0 < i.size) (hb0 : 0 < i.bytes) (CA) (h : vcOp CA G (.app e i.size i.bytes x' y') s H K) : OpA P G o s H K := by
  intro F n c a w hr
  have hv := toX_ok hr hx
  have hv' := toX_ok hr hy
  simp only [vcOp] at h
  generalize x'.val G s = d at h hv
  generalize y'.val G s = d' at h hv'
  generalize he : a.eval x = v at hv
  generalize he' : a.eval y = v' at hv'
  have hsmall : ∀ m, m * i.bytes ≤ 140737488355328 → m ≤ maxLen := by
    intro m hm
    have : m ≤ m * i.bytes := Nat.le_mul_of_pos_right _ hb0
    simp only [maxLen]; omega
  split at h
  · rename_i id ver ys
    split at h
    · rename_i b v0 e0 sz xs hH
      obtain ⟨rfl, rfl, rfl, hyl, hbd, hK⟩ := h
      cases hv with
      | row _ _ sz' ob ao n' cap hob hk hver hκ =>
        rw [hH] at hob
        cases hob
        have hκ' := hκ rfl
        cases hv' with
        | sl _ ao' ad cap' sz2 vs hcap ha hs ho' hΦ hr' =>
          obtain ⟨v1, w', c', k1, k2, k3, k4, a1, n1, cap1, k5⟩ := hr.hp.append (P := P) (ty := o.type) hH ht hi hz rfl rfl hzs hyl (.sl ys ao' ad cap' sz2 vs hcap ha hs ho' hΦ hr') hbd (hsmall _ hbd)
          refine .inl ⟨v1, w', c', _, _, ?_, k2, k3, ?_, hK⟩
          · rw [← hκ'] at k1
            simp [execOp, ho, he, he', resolve, invoke, builtin, k1]
          · subst k5
            exact .row id _ i.size _ a1 n1 cap1 (List.getElem?_set_self (List.getElem?_eq_some_iff.1 hH).1) rfl (Nat.le_refl _) fun _ => k4.symm
    · exact h.elim
  · rename_i ys
    obtain ⟨hyl, hbd, hK⟩ := h
    cases hv
    obtain ⟨a2, n2, cap2, rfl⟩ : ∃ a2 n2 cap2, v' = .slice a2 n2 cap2 := by cases hv'; exact ⟨_, _, _, rfl⟩
    have hE := Ext.push (c := c) (H := H) (.row true 0 e i.size []) (.slice none 0 0)
    have hp := hr.hp.push (grownBy_refl w none) (.row true 0 e i.size []) (.slice none 0 0) (fun b hb => by cases hb)
      ⟨h0, fun y hy => by simp at hy, [], by simp only [updκ, if_true]; exact World.ownsRow_nil w 0 e i.size, fun k hk => by simp [flat] at hk, fun g hg => by simp [updκ, blk] at hg⟩
    have hH : (H ++ [O.row true 0 e i.size []])[H.length]? = some (.row true 0 e i.size []) := by rw [getElem?_snoc, if_pos rfl]
    obtain ⟨v1, w', c', k1, k2, k3, k4, a1, n1, cap1, k5⟩ := hp.append (P := P) (ty := o.type) (ys := ys) hH ht hi hz rfl rfl hzs hyl (hv'.ext hE) (by simpa using hbd) (by simpa using hsmall _ hbd)
    rw [List.nil_append] at k2 k3
    have hset : (H ++ [O.row true 0 e i.size []]).set H.length (.row true (0 + 1) e i.size ys) = H ++ [.row true 1 e i.size ys] := by
      rw [List.set_append_right _ _ (Nat.le_refl _)]; simp
    rw [hset] at k2 k3
    refine .inl ⟨v1, w', c', _, .row H.length 1, ?_, k2, hE.trans k3, ?_, hK⟩
    · simp only [updκ, if_true] at k1
      simp [execOp, ho, he, he', resolve, invoke, builtin, k1]
    · subst k5
      exact .row H.length _ i.size _ a1 n1 cap1 (by rw [getElem?_snoc, if_pos rfl]) rfl (Nat.le_refl _) fun _ => k4.symm
  · exact h.elim
theorem str_hat {w : World} {t u ty e : TypeId} {i : TypeInfo} (ht : P.underlying t = some (.slice e)) (hu : P.underlying u = some .string) (hi : P.info? e = some i) (hz : i.zero = some (.int .u8 0)) (hsize : i.size = 1) (hby : i.bytes = 1)
    {v : Value} {n : Nat} {xs : List Value} (hown : w.ownsRow 0 e 1 v n xs) (b : ByteArray) (hb : n + b.size ≤ 140737488355328) {v' : Value} {w' : World} (hrun : (Builtin.append_ #[t, u] ty #[v, .string b]).run P w = .ok v' w') :
    (v'.ownBlock = v.ownBlock ∨ v'.ownBlock = some w.heap.size) ∧ ∃ a' n' cap', v' = .slice a' n' cap' := by
  have hxl : xs.length = n := by simpa using hown.1
  rcases hown.2 with ⟨rfl, rfl⟩ | ⟨g, cap, cur, rfl, hbg, hg, hnc, hcm, hcs, htake⟩
  · by_cases hm : b.size = 0
    · have hf := Lib.run_firstCells_string (P := P) w 1 b
      rw [hm] at hf
      have : (Builtin.append_ #[t, u] ty #[.slice none 0 0, .string b]).run P w = .ok (.slice none 0 0) w := by
        simp [Builtin.append_, run_underlying ht, run_underlying hu, sizeOf, typeInfo, hi, hsize, Builtin.lenOf, hm, hf]
      rw [this] at hrun
      injection hrun with h1 _
      subst h1
      exact ⟨.inl rfl, _, _, _, rfl⟩
    · have hr := run_append_nil_string (P := P) w t u ty e i (.int .u8 0) ht hu hi hz b (by omega) (by omega) (by rw [hby]; omega)
      rw [hr] at hrun
      injection hrun with h1 _
      subst h1
      exact ⟨.inr rfl, _, _, _, rfl⟩
  · by_cases hroom : n + b.size ≤ cap
    · have hcs' : cur.size = cap := by simpa using hcs
      have hr := Lib.run_append_room_string (P := P) w t u ty e i ht hu hi hsize g n cap cur hg b hroom (by omega)
      rw [hr] at hrun
      injection hrun with h1 _
      subst h1
      exact ⟨.inl rfl, _, _, _, rfl⟩
    · have holds : ∀ j u, xs[j]? = some u → w.cell? ((⟨g, 0, none⟩ : Addr).add j) = some u := hown.cells (g := g) rfl
      have hr := Lib.run_append_grow_string (P := P) w t u ty e i (.int .u8 0) ht hu hi hz ⟨g, 0, none⟩ n cap xs (by rw [hsize]; simpa using hxl) holds b (by omega) (by omega) (by rw [hby]; exact growslice_fits (by omega) (by omega))
      rw [hr] at hrun
      injection hrun with h1 _
      subst h1
      exact ⟨.inr rfl, _, _, _, rfl⟩
theorem RelH.appendS {F : Frm} {c : Conc} {H : List O} {w : World} (h : RelH F c H w) {id : Nat} {ver : Nat} {e : TypeId} {xs : List D} (ho : H[id]? = some (.row true ver e 1 xs))
    {t u ty : TypeId} {i : TypeInfo} (ht : P.underlying t = some (.slice e)) (hu : P.underlying u = some .string) (hi : P.info? e = some i) (hz : i.zero = some (.int .u8 0)) (hsize : i.size = 1) (hby : i.bytes = 1)
    (b : ByteArray) (hb : xs.length + b.size ≤ 140737488355328) :
    ∃ v' w' c', (Builtin.append_ #[t, u] ty #[c.κ id, .string b]).run P w = .ok v' w' ∧ RelH F c' (H.set id (.row true (ver + 1) e 1 (xs ++ b.data.toList.map fun u => .lit (.int .u8 u.toNat)))) w' ∧ Ext c H c' (H.set id (.row true (ver + 1) e 1 (xs ++ b.data.toList.map fun u => .lit (.int .u8 u.toNat)))) ∧ c'.κ id = v' ∧ ∃ a' n' cap', v' = .slice a' n' cap' := by
  have hok := h.objs id _ ho
  have hbr := blk_row hok
  obtain ⟨h0, h1, cells, hown, h2, h3⟩ := hok
  have hfl : (flat xs).length = xs.length * 1 := flat_length fun y hy => (h1 y hy).1
  have hcl : cells.length = xs.length * 1 := hown.1
  obtain ⟨v', w', hr, k2, k3, _⟩ := Lib.run_append_own_string (P := P) w 0 t u ty e i ht hu hi hz hsize hby (c.κ id) xs.length cells hown b (by simp only [maxLen]; omega) hb (Nat.zero_le _)
  obtain ⟨k4, k5⟩ := str_hat ht hu hi hz hsize hby hown b hb hr
  have hfm : ∀ l : List UInt8, flat (l.map fun u => D.lit (.int .u8 u.toNat)) = l.map fun u => D.lit (.int .u8 u.toNat) := by
    intro l
    induction l with
    | nil => rfl
    | cons a l ih => simp only [List.map_cons, flat, List.flatMap_cons, D.leaves] at ih ⊢; rw [ih]; rfl
  have hbs : b.size = b.data.toList.length := (Array.length_toList).symm
  obtain ⟨c', j1, j2, j3⟩ := h.rerow ho (xs ++ b.data.toList.map fun u => .lit (.int .u8 u.toNat)) v' (cells ++ Lib.strCells b) k3 (by rw [List.length_append, List.length_map, ← hbs]; exact k2)
    (by
      intro y hy
      rcases List.mem_append.1 hy with q | q
      · exact h1 y q
      · obtain ⟨u, _, rfl⟩ := List.mem_map.1 q
        exact ⟨rfl, fun z hz => by simp only [D.leaves, List.mem_singleton] at hz; subst hz; rfl⟩)
    (by
      intro k hk
      simp only [flat_append, hfm] at hk ⊢
      by_cases hlt : k < (flat xs).length
      · rw [List.getElem_append_left hlt]
        have : (cells ++ Lib.strCells b).getD k undef = cells.getD k undef := by
          simp only [List.getD_eq_getElem?_getD]
          rw [List.getElem?_append_left (by rw [hcl, ← hfl]; exact hlt)]
        rw [this]
        exact h2 k hlt
      · rw [List.getElem_append_right (by omega)]
        have hk2 : k - (flat xs).length < b.data.toList.length := by simp only [List.length_append, List.length_map] at hk; omega
        have : (cells ++ Lib.strCells b).getD k undef = .int .u8 (b.data.toList[k - (flat xs).length]'hk2).toNat := by
          simp only [List.getD_eq_getElem?_getD]
          rw [List.getElem?_append_right (by omega), hcl, ← hfl, Lib.strCells_eq]
          simp [Lib.byteCells, List.getElem?_eq_getElem hk2]
        rw [this]
        simp only [List.getElem_map]
        exact .lit _)
    k4 (fun q => by cases q) (fun q => by cases q)
    (fun a v ha hb' => by
      have hg : blk (c.κ id) = some a.block := by rw [hbr]; exact hb'
      have := ((h3 a.block hg).1 a v ha rfl).1
      cases this)
  exact ⟨v', w', c', hr, j1, j2, j3, k5⟩
theorem sound_appS {t u : TypeId} {x y : Operand} {x' y' : X} {e : TypeId} {i : TypeInfo} (ho : o.op = .call { callee := .builtin .append, args := #[x, y], argTypes := #[t, u] }) (hx : Operand.toX x = some x') (hy : Operand.toX y = some y')
    (ht : P.underlying t = some (.slice e)) (hu : P.underlying u = some .string) (hi : P.info? e = some i) (hz : i.zero = some (.int .u8 0)) (hsize : i.size = 1) (hby : i.bytes = 1) (CA) (h : vcOp CA G (.appS e x' y') s H K) : OpA P G o s H K := by
  intro F n c a w hr
  have hv := toX_ok hr hx
  have hv' := toX_ok hr hy
  simp only [vcOp] at h
  generalize x'.val G s = d at h hv
  generalize y'.val G s = d' at h hv'
  generalize he : a.eval x = v at hv
  generalize he' : a.eval y = v' at hv'
  split at h
  · rename_i id ver b
    cases hv'
    split at h
    · rename_i v0 e0 sz xs hH
      obtain ⟨rfl, rfl, rfl, hbd, hK⟩ := h
      cases hv with
      | row _ _ sz' ob ao n' cap hob hk hver hκ =>
        rw [hH] at hob
        cases hob
        have hκ' := hκ rfl
        obtain ⟨v1, w', c', k1, k2, k3, k4, a1, n1, cap1, k5⟩ := hr.hp.appendS (P := P) (ty := o.type) hH ht hu hi hz hsize hby b hbd
        refine .inl ⟨v1, w', c', _, _, ?_, k2, k3, ?_, hK⟩
        · rw [← hκ'] at k1
          simp [execOp, ho, he, he', resolve, invoke, builtin, k1]
        · subst k5
          exact .row id _ 1 _ a1 n1 cap1 (List.getElem?_set_self (List.getElem?_eq_some_iff.1 hH).1) rfl (Nat.le_refl _) fun _ => k4.symm
    · exact h.elim
  · rename_i b
    cases hv'
    obtain ⟨hbd, hK⟩ := h
    cases hv
    have hE := Ext.push (c := c) (H := H) (.row true 0 e 1 []) (.slice none 0 0)
    have hp := hr.hp.push (grownBy_refl w none) (.row true 0 e 1 []) (.slice none 0 0) (fun b hb => by cases hb)
      ⟨by omega, fun y hy => by simp at hy, [], by simp only [updκ, if_true]; exact World.ownsRow_nil w 0 e 1, fun k hk => by simp [flat] at hk, fun g hg => by simp [updκ, blk] at hg⟩
    have hH : (H ++ [O.row true 0 e 1 []])[H.length]? = some (.row true 0 e 1 []) := by rw [getElem?_snoc, if_pos rfl]
    obtain ⟨v1, w', c', k1, k2, k3, k4, a1, n1, cap1, k5⟩ := hp.appendS (P := P) (ty := o.type) hH ht hu hi hz hsize hby b (by simpa using hbd)
    rw [List.nil_append] at k2 k3
    have hset : ∀ ys, (H ++ [O.row true 0 e 1 []]).set H.length (.row true (0 + 1) e 1 ys) = H ++ [.row true 1 e 1 ys] := by
      intro ys
      rw [List.set_append_right _ _ (Nat.le_refl _)]; simp
    rw [hset] at k2 k3
    refine .inl ⟨v1, w', c', _, .row H.length 1, ?_, k2, hE.trans k3, ?_, hK⟩
    · simp only [updκ, if_true] at k1
      simp [execOp, ho, he, he', resolve, invoke, builtin, k1]
    · subst k5
      exact .row H.length _ 1 _ a1 n1 cap1 (by rw [getElem?_snoc, if_pos rfl]) rfl (Nat.le_refl _) fun _ => k4.symm
  · exact h.elim
theorem fill_all (size : Nat) (vs : List Value) (hv : ∀ v ∈ vs, v.cells.size = size) : ∀ (k : Nat) (done rest : List Value), done.length = k * size → rest.length = vs.length * size →
    Instr.fill (fun i => some (i * size, size)) (done ++ rest).toArray ((vs.zipIdx k).map fun p => (p.2, p.1)) = some (done ++ vs.flatMap fun v => v.cells.toList).toArray := by
  induction vs with
  | nil =>
    intro k done rest hd hr
    have : rest = [] := List.eq_nil_of_length_eq_zero (by simpa using hr)
    subst this
    simp [Instr.fill]
  | cons v vs ih =>
    intro k done rest hd hr
    have hvs := hv v (List.mem_cons_self)
    simp only [List.zipIdx_cons, List.map_cons, Instr.fill]
    rw [if_neg ?_]
    · have key : ∀ (cs : List Value) (j : Nat) (l : List Value), k * size + j + cs.length ≤ l.length →
          (cs.zipIdx j).foldl (fun acc p => Array.setIfInBounds acc (k * size + p.2) p.1) l.toArray = (l.take (k * size + j) ++ cs ++ l.drop (k * size + j + cs.length)).toArray := by
        intro cs
        induction cs with
        | nil => intro j l hl; simp
        | cons c cs ihc =>
          intro j l hl
          simp only [List.zipIdx_cons, List.foldl_cons, List.length_cons] at hl ⊢
          rw [List.setIfInBounds_toArray]
          rw [ihc (j + 1) (l.set (k * size + j) c) (by simp; omega)]
          congr 1
          apply List.ext_getElem?
          intro q
          have e1 := getElem?_splice (l := l.set (k * size + j) c) (news := cs) (off := k * size + (j + 1)) (i := q) (by rw [List.length_set]; omega)
          have e2 := getElem?_splice (l := l) (news := c :: cs) (off := k * size + j) (i := q) (by rw [List.length_cons]; omega)
          simp only [List.length_cons] at e2
          rw [e1, e2]
          by_cases h1 : q = k * size + j
          · subst h1
            rw [if_neg (by omega), if_pos (by omega), List.getElem?_set_self (by omega), Nat.sub_self]; rfl
          · by_cases h2 : k * size + j < q ∧ q < k * size + j + (cs.length + 1)
            · rw [if_pos (by omega), if_pos (by omega), show q - (k * size + j) = (q - (k * size + (j + 1))) + 1 by omega, List.getElem?_cons_succ]
            · rw [if_neg (by omega), if_neg (by omega), List.getElem?_set_ne (by omega)]
      have hsz : v.cells.toList.length = size := by simpa using hvs
      have hrl : rest.length = size + vs.length * size := by rw [hr, List.length_cons, Nat.add_mul]; omega
      have h1 := key v.cells.toList 0 (done ++ rest) (by rw [List.length_append, hd, hrl, hsz]; omega)
      have h2 : (v.cells.zipIdx.foldl (fun cs x => cs.setIfInBounds (k * size + x.2) x.1) (done ++ rest).toArray) = ((v.cells.toList.zipIdx 0).foldl (fun acc p => Array.setIfInBounds acc (k * size + p.2) p.1) (done ++ rest).toArray) := by
        rw [← Array.foldl_toList]; simp
      rw [h2, h1]
      simp only [Nat.add_zero]
      rw [List.take_append_of_le_length (by omega), List.take_of_length_le (by omega), hsz, List.drop_append, List.drop_eq_nil_of_le (by omega), List.nil_append, hd]
      have := ih (fun u hu => hv u (List.mem_cons_of_mem _ hu)) (k + 1) (done ++ v.cells.toList) (rest.drop (k * size + size - k * size)) (by simp only [List.length_append, hd, hsz, Nat.add_mul, Nat.one_mul]) (by simp only [List.length_drop, hrl]; omega)
      rw [this]
      simp
    · simp only [hvs, bne_self_eq_false, Bool.false_or, decide_eq_true_eq]
      have : rest.length = size + vs.length * size := by rw [hr, List.length_cons, Nat.add_mul]; omega
      simp [hd, this]
end
end Go.DL
set_option linter.unusedVariables false
set_option linter.unusedSimpArgs false
namespace Go.DL
open Go
section
variable {P : Program} {G : Nat → D} {o : Oper} {s : Nat → D} {H : List O} {K : D → List O → Prop}
inductive RdL (c : Conc) (H : List O) : List D → List Value → Prop
  | nil : RdL c H [] []
  | cons {d : D} {v : Value} {ds : List D} {vs : List Value} (h : RdV c H d v) (k : RdL c H ds vs) : RdL c H (d :: ds) (v :: vs)
theorem RdL.length {c : Conc} {H : List O} {ds : List D} {vs : List Value} (h : RdL c H ds vs) : vs.length = ds.length := by
  induction h with
  | nil => rfl
  | cons _ _ ih => simp [ih]
theorem RdL.of {F : Frm} {n : Nat} {c : Conc} {a : Act} {w : World} (hr : Rel G F n c ⟨s, H⟩ a w) : ∀ {args : List Operand} {xs : List X}, args.map Operand.toX = xs.map some → RdL c H (xs.map (X.val G s)) (args.map a.eval)
  | [], [], _ => .nil
  | x :: args, y :: xs, h => by
    simp only [List.map_cons, List.cons.injEq] at h
    exact .cons (toX_ok hr h.1) (RdL.of hr h.2)
  | [], y :: xs, h => by simp at h
  | x :: args, [], h => by simp at h
theorem RdL.flat {c : Conc} {H : List O} {ds : List D} {vs : List Value} (h : RdL c H ds vs) (hw : ∀ d ∈ ds, d.whole) :
    (vs.flatMap fun v => v.cells.toList).length = (flat ds).length ∧ (∀ k (hk : k < (DL.flat ds).length), RdV c H ((DL.flat ds)[k]'hk) ((vs.flatMap fun v => v.cells.toList).getD k undef)) ∧ (∀ u ∈ (vs.flatMap fun v => v.cells.toList), u.oneCell' = true) ∧ ∀ d ∈ ds, ∀ z ∈ d.leaves, z.one = true := by
  induction h with
  | nil => exact ⟨rfl, fun k hk => by simp [DL.flat] at hk, by simp, by simp⟩
  | @cons d v ds vs h k ih =>
    obtain ⟨i1, i2, i3, i4⟩ := ih fun d hd => hw d (List.mem_cons_of_mem _ hd)
    obtain ⟨c1, c2, c3, c4⟩ := h.cells (hw d List.mem_cons_self)
    have hl : v.cells.toList.length = d.leaves.length := by simpa using c1
    simp only [List.flatMap_cons, DL.flat] at i1 i2 ⊢
    refine ⟨by simp [i1, c1], fun k hk => ?_, fun u hu => ?_, fun d' hd' => ?_⟩
    · by_cases hlt : k < d.leaves.length
      · rw [List.getElem_append_left hlt, List.getD_eq_getElem?_getD, List.getElem?_append_left (by omega)]
        have := c3 k hlt
        simpa [Array.getD_eq_getD_getElem?] using this
      · rw [List.getElem_append_right (by omega), List.getD_eq_getElem?_getD, List.getElem?_append_right (by omega), hl, ← List.getD_eq_getElem?_getD]
        exact i2 (k - d.leaves.length) (by rw [List.length_append] at hk; omega)
    · rcases List.mem_append.1 hu with q | q
      · exact c4 u q
      · exact i3 u q
    · rcases List.mem_cons.1 hd' with q | q
      · rw [q]; exact c2
      · exact i4 d' q
theorem run_bsl {w : World} {t e : TypeId} {i : TypeInfo} {z : Value} {vs : List Value} (ht : P.underlying t = some (.slice e)) (hi : P.info? e = some i) (hz : i.zero = some z) (hs : vs.length * i.size ≤ 2 ^ 24) (hv : ∀ v ∈ vs, v.cells.size = i.size) {parts : Array (Nat × Value)}
    (hp : parts.toList = (vs.zipIdx 0).map fun p => (p.2, p.1)) : (Instr.buildSlice t vs.length parts).run P w = .ok (.slice (some ⟨w.heap.size, 0, none⟩) vs.length vs.length) (w.alloc (.cells (vs.flatMap fun v => v.cells.toList).toArray e)) := by
  have hs' : ¬ 16777216 < vs.length * i.size := by omega
  have hf : ∀ zero : Array Value, Instr.fill (fun k => some (k * i.size, i.size)) ((Array.range (vs.length * i.size)).map (zero[· % zero.size]!)) parts.toList = some (vs.flatMap fun v => v.cells.toList).toArray := by
    intro zero
    have := fill_all i.size vs hv 0 [] ((Array.range (vs.length * i.size)).map (zero[· % zero.size]!)).toList (by simp) (by simp)
    simp only [List.nil_append] at this
    rw [hp, ← this]
  have h1 := hf #[]
  have h2 := hf z.cells
  by_cases h0 : vs.length * i.size = 0
  · simp only [Instr.buildSlice, Sem.run_bind, run_underlying ht, Result.andThen_ok, sizeOf, typeInfo, run_program, hi, Sem.run_pure, Sem.run_ite]
    rw [if_neg (by omega)]
    simp only [Result.andThen_ok, Sem.run_pure, if_pos h0, h1, newRow, Sem.run_bind, run_newObj]
    rfl
  · simp only [Instr.buildSlice, Sem.run_bind, run_underlying ht, Result.andThen_ok, sizeOf, typeInfo, run_program, hi, Sem.run_pure, Sem.run_ite]
    rw [if_neg (by omega)]
    simp only [Result.andThen_ok, Sem.run_pure, if_neg h0, zeroValue, typeInfo, Sem.run_bind, run_program, hi, hz, h2, newRow, run_newObj]
    rfl
theorem add_zero_blk (b k : Nat) : ((⟨b, 0, none⟩ : Addr).add k) = ⟨b, k, none⟩ := by unfold Addr.add; split <;> simp_all
theorem sound_bsl {t e : TypeId} {len : Nat} {parts : Array (Nat × Operand)} {xs : List X} {i : TypeInfo} {z : Value} {row : Bool} (ho : o.op = .buildSlice t len parts) (hx : parts.toList.map (fun p => Operand.toX p.2) = xs.map some) (hpi : parts.toList.map (·.1) = List.range parts.size) (hlen : parts.size = len)
    (ht : P.underlying t = some (.slice e)) (hi : P.info? e = some i) (hz : i.zero = some z) (hs : len * i.size ≤ 2 ^ 24) (h0 : 0 < i.size) (CA) (h : vcOp CA G (.bsl row e i.size xs) s H K) : OpA P G o s H K := by
  intro F n c a w hr
  obtain ⟨hw, h⟩ := h
  have hxl : xs.length = len := by have := congrArg List.length hx; simp at this; omega
  have hL : RdL c H (xs.map (X.val G s)) ((parts.toList.map (·.2)).map a.eval) := RdL.of hr (by rw [← hx, List.map_map]; rfl)
  generalize hvs : (parts.toList.map (·.2)).map a.eval = vs at hL
  have hvl : vs.length = len := by rw [hL.length]; simpa using hxl
  have hds : ∀ d ∈ xs.map (X.val G s), d.whole ∧ d.leaves.length = i.size := by
    intro d hd
    obtain ⟨x, hx', rfl⟩ := List.mem_map.1 hd
    exact hw x hx'
  generalize xs.map (X.val G s) = ds at hL hds h
  have hdl : ds.length = len := by rw [← hL.length]; exact hvl
  have hv : ∀ v ∈ vs, v.cells.size = i.size := by
    clear hvs hvl hdl h
    induction hL with
    | nil => simp
    | cons h1 _ ih =>
      intro v hv
      rcases List.mem_cons.1 hv with rfl | q
      · obtain ⟨k1, k2⟩ := hds _ List.mem_cons_self
        rw [(h1.cells k1).1, k2]
      · exact ih (fun d hd => hds d (List.mem_cons_of_mem _ hd)) v q
  obtain ⟨f1, f2, f3, f4⟩ := hL.flat fun d hd => (hds d hd).1
  have hfl : (flat ds).length = len * i.size := by rw [flat_length fun d hd => (hds d hd).2, hdl]
  have hrun := run_bsl (P := P) (w := w) (t := t) (parts := parts.map fun p => (p.1, a.eval p.2)) ht hi hz (by rw [hvl]; exact hs) hv (by
    rw [← hvs]
    apply List.ext_getElem?
    intro k
    have hk := congrArg (fun l => l[k]?) hpi
    simp only [Array.toList_map, List.getElem?_map, List.getElem?_zipIdx] at hk ⊢
    cases hq : parts.toList[k]? with
    | none => simp
    | some p =>
      rw [hq] at hk
      have hkl : k < parts.size := by have := (List.getElem?_eq_some_iff.1 hq).1; simpa using this
      simp only [Option.map_some, List.getElem?_range hkl, Option.some.injEq] at hk
      simp [hk])
  rw [hvl] at hrun
  have hexec : (execOp a.eval o).run P w = .ok (.value (.slice (some ⟨w.heap.size, 0, none⟩) len len)) (w.alloc (.cells (vs.flatMap fun v => v.cells.toList).toArray e)) := by
    simp only [execOp, ho, Sem.run_bind]
    have e1 : (parts.map fun (x : Nat × Operand) => match x with | (i, x) => (i, a.eval x)) = parts.map fun p => (p.1, a.eval p.2) := rfl
    rw [e1, hrun]; rfl
  generalize hcells : (vs.flatMap fun v => v.cells.toList) = cells at f1 f2 f3 hexec
  have hcl : cells.length = len * i.size := by rw [f1]; exact hfl
  have hnew : ∀ k, (w.alloc (.cells cells.toArray e)).cell? ⟨w.heap.size, k, none⟩ = cells[k]? := by intro k; rw [World.cell?_alloc_new]; simp
  cases row with
  | true =>
    simp only [if_true] at h
    have hlm : len ≤ maxLen := by
      have : len ≤ len * i.size := Nat.le_mul_of_pos_right _ h0
      simp only [maxLen]; omega
    refine .inl ⟨_, _, updκ c H.length (.slice (some ⟨w.heap.size, 0, none⟩) len len), H ++ [.row true 0 e i.size ds], .row H.length 0, hexec, ?_, Ext.push _ _, ?_, h⟩
    · refine hr.hp.push (World.grownBy_alloc w _ none) _ _ (fun b hb => by simp only [blk, Option.some.injEq] at hb; omega) ?_
      refine ⟨h0, fun y hy => ⟨(hds y hy).2, f4 y hy⟩, cells, ?_, fun k hk => (f2 k hk).ext (Ext.push _ _), fun g hg => ?_⟩
      · refine ⟨by rw [hdl]; exact hcl, .inr ⟨w.heap.size, len, cells.toArray, by simp [updκ, hdl], Nat.zero_le _, heap_alloc_new w _, by omega, hlm, by simpa using hcl, ?_⟩⟩
        rw [hdl, ← hcl]; simp
      · simp only [updκ, if_true, blk, Option.some.injEq] at hg
        subst hg
        refine ⟨fun b v hb hbb => ?_, fun hx => by cases hx⟩
        have := World.block_lt_of_cell? w b (hr.hp.good b v hb)
        omega
    · exact .row H.length 0 i.size _ _ _ _ (by rw [getElem?_snoc, if_pos rfl]) rfl (Nat.le_refl _) fun _ => by simp [updκ]
  | false =>
    simp only [Bool.false_eq_true, if_false] at h
    let c' : Conc := ⟨fun b => if b.block = w.heap.size ∧ b.spot = none then cells[b.off]? else c.Φ b, c.κ⟩
    have hE : Ext c H c' H := by
      refine ⟨fun b v hb => ?_, fun id q hq => ⟨q, hq, rfl, Nat.le_refl _, fun _ => rfl⟩⟩
      show (if b.block = w.heap.size ∧ b.spot = none then cells[b.off]? else c.Φ b) = some v
      have := World.block_lt_of_cell? w b (hr.hp.good b v hb)
      rw [if_neg (by omega)]
      exact hb
    refine .inl ⟨_, _, c', H, .sl ds, hexec, ?_, hE, ?_, h⟩
    · refine hr.hp.step none H.length (World.grownBy_alloc w _ none) (fun b hb => by cases hb) hE (fun _ _ _ => rfl) (fun _ _ => rfl) ?_ (fun _ _ _ hrow => by cases hrow) ?_ (fun b hb => absurd hb (Nat.lt_irrefl _)) ?_
      · intro b v hb
        have hb' : (if b.block = w.heap.size ∧ b.spot = none then cells[b.off]? else c.Φ b) = some v := hb
        split at hb'
        · rename_i hc
          right
          have : b = ⟨w.heap.size, b.off, none⟩ := by cases b; simp_all
          exact ⟨by rw [this, hnew]; exact hb', .inl (by omega)⟩
        · exact .inl hb'
      · intro q hq
        rw [List.getElem?_eq_none (Nat.le_refl _)] at hq; cases hq
      · intro ver es hm
        rw [List.getElem?_eq_none (Nat.le_refl _)] at hm; cases hm
    · rw [show Value.slice (some ⟨w.heap.size, 0, none⟩) len len = .slice (some ⟨w.heap.size, 0, none⟩) ds.length len by rw [hdl]]
      have hs1 := fun y hy => (hds y hy).2
      refine .sl ds _ ⟨w.heap.size, 0, none⟩ len i.size (fun j k => cells.getD (j * i.size + k) undef) (by omega) (fun _ => rfl) (fun j hj => hs1 _ (List.getElem_mem hj)) (fun j hj k hk => f4 _ (List.getElem_mem hj) _ (List.getElem_mem hk)) ?_ ?_
      · intro j hj k hk
        have hk' : k < i.size := by rw [← hs1 _ (List.getElem_mem hj)]; exact hk
        have hlt := idx_lt hj hk'
        rw [add_zero_blk]
        show (if (w.heap.size : Nat) = w.heap.size ∧ (none : Option Nat) = none then cells[j * i.size + k]? else _) = _
        rw [if_pos ⟨rfl, rfl⟩, List.getD_eq_getElem?_getD, List.getElem?_eq_getElem (by rw [hcl, ← hdl]; exact hlt)]
        rfl
      · intro j hj k hk
        have hk' : k < i.size := by rw [← hs1 _ (List.getElem_mem hj)]; exact hk
        have hlt := idx_lt hj hk'
        have hf := flat_get hs1 j hj k hk
        have hkk : j * i.size + k < (flat ds).length := by rw [hfl, ← hdl]; exact hlt
        rw [List.getElem?_eq_getElem hkk] at hf
        have := (f2 (j * i.size + k) hkk).ext hE
        rw [Option.some.inj hf] at this
        exact this
end
end Go.DL
set_option linter.unusedVariables false
set_option linter.unusedSimpArgs false
namespace Go.DL
open Go
section
variable {P : Program} {G : Nat → D} {o : Oper} {s : Nat → D} {H : List O} {K : D → List O → Prop}
theorem foldl_set (base : Nat) : ∀ (cs : List Value) (j : Nat) (l : List Value), base + j + cs.length ≤ l.length →
    (cs.zipIdx j).foldl (fun acc p => Array.setIfInBounds acc (base + p.2) p.1) l.toArray = (l.take (base + j) ++ cs ++ l.drop (base + j + cs.length)).toArray := by
  intro cs
  induction cs with
  | nil => intro j l hl; simp
  | cons c cs ihc =>
    intro j l hl
    simp only [List.zipIdx_cons, List.foldl_cons, List.length_cons] at hl ⊢
    rw [List.setIfInBounds_toArray]
    rw [ihc (j + 1) (l.set (base + j) c) (by simp; omega)]
    congr 1
    apply List.ext_getElem?
    intro q
    have e1 := getElem?_splice (l := l.set (base + j) c) (news := cs) (off := base + (j + 1)) (i := q) (by rw [List.length_set]; omega)
    have e2 := getElem?_splice (l := l) (news := c :: cs) (off := base + j) (i := q) (by rw [List.length_cons]; omega)
    simp only [List.length_cons] at e2
    rw [e1, e2]
    by_cases h1 : q = base + j
    · subst h1
      rw [if_neg (by omega), if_pos (by omega), List.getElem?_set_self (by omega), Nat.sub_self]; rfl
    · by_cases h2 : base + j < q ∧ q < base + j + (cs.length + 1)
      · rw [if_pos (by omega), if_pos (by omega), show q - (base + j) = (q - (base + (j + 1))) + 1 by omega, List.getElem?_cons_succ]
      · rw [if_neg (by omega), if_neg (by omega), List.getElem?_set_ne (by omega)]
def Cells (c : Conc) (H : List O) (ds : List D) (arr : List Value) : Prop :=
  arr.length = ds.length ∧ (∀ z ∈ ds, z.one = true) ∧ ∀ i (h : i < ds.length), RdV c H (ds[i]'h) (arr.getD i undef)
theorem Cells.splice {c : Conc} {H : List O} {ds ys : List D} {arr vs : List Value} (h : Cells c H ds arr) (k : Cells c H ys vs) {off : Nat} (hl : off + ys.length ≤ ds.length) :
    Cells c H (ds.take off ++ ys ++ ds.drop (off + ys.length)) (arr.take off ++ vs ++ arr.drop (off + vs.length)) := by
  have h1 := h.1
  have k1 := k.1
  refine ⟨by simp; omega, fun z hz => ?_, fun i hi => ?_⟩
  · rcases List.mem_append.1 hz with q | q
    · rcases List.mem_append.1 q with q | q
      · exact h.2.1 z (List.mem_of_mem_take q)
      · exact k.2.1 z q
    · exact h.2.1 z (List.mem_of_mem_drop q)
  · rw [getElem_spliceD hl, getD_splice (by omega), k1]
    split
    · exact k.2.2 _ _
    · exact h.2.2 _ _
theorem RdV.toCells {c : Conc} {H : List O} {d : D} {v : Value} (h : RdV c H d v) (hw : d.whole) : Cells c H d.leaves v.cells.toList := by
  obtain ⟨c1, c2, c3, c4⟩ := h.cells hw
  refine ⟨by simpa using c1, c2, fun i hi => ?_⟩
  have := c3 i hi
  simpa [Array.getD_eq_getD_getElem?, List.getD_eq_getElem?_getD] using this
theorem fill_cells {c : Conc} {place : Nat → Option (Nat × Nat)} : ∀ (parts : List (Nat × Value)) (ps : List (Nat × Nat × D)) (ds : List D) (arr : List Value), Cells c H ds arr → parts.length = ps.length →
    (∀ k (h : k < parts.length) (h' : k < ps.length), place (parts[k]'h).1 = some ((ps[k]'h').1, (ps[k]'h').2.1) ∧ RdV c H (ps[k]'h').2.2 (parts[k]'h).2 ∧ (ps[k]'h').2.2.whole ∧ (ps[k]'h').2.2.leaves.length = (ps[k]'h').2.1 ∧ (ps[k]'h').1 + (ps[k]'h').2.1 ≤ ds.length) →
    ∃ arr', Instr.fill place arr.toArray parts = some arr'.toArray ∧ Cells c H (fillD ds (ps.map fun p => (p.1, p.2.2.leaves))) arr'
  | [], [], ds, arr, h, _, _ => ⟨arr, rfl, h⟩
  | [], _ :: _, _, _, _, hl, _ => by simp at hl
  | _ :: _, [], _, _, _, hl, _ => by simp at hl
  | (i, v) :: parts, (off, size, d) :: ps, ds, arr, h, hl, hp => by
    obtain ⟨p1, p2, p3, p4, p5⟩ := hp 0 (by simp) (by simp)
    simp only [List.getElem_cons_zero] at p1 p2 p3 p4 p5
    have hc := p2.toCells p3
    have hsz : v.cells.size = size := by have := hc.1; simp at this; omega
    have hsp := h.splice hc (off := off) (by omega)
    have harr := h.1
    obtain ⟨arr', q1, q2⟩ := fill_cells parts ps _ _ hsp (by simpa using hl) (fun k hk hk' => by
      obtain ⟨r1, r2, r3, r4, r5⟩ := hp (k + 1) (by simpa using hk) (by simpa using hk')
      simp only [List.getElem_cons_succ] at r1 r2 r3 r4 r5
      exact ⟨r1, r2, r3, r4, by simp; omega⟩)
    refine ⟨arr', ?_, ?_⟩
    · simp only [Instr.fill, p1]
      rw [if_neg (by simp [hsz]; omega)]
      have h2 : (v.cells.zipIdx.foldl (fun cs x => cs.setIfInBounds (off + x.2) x.1) arr.toArray) = ((v.cells.toList.zipIdx 0).foldl (fun acc p => Array.setIfInBounds acc (off + p.2) p.1) arr.toArray) := by
        rw [← Array.foldl_toList]; simp
      rw [h2, foldl_set off _ 0 arr (by simp [hsz]; omega)]
      exact q1
    · simpa only [List.map_cons, fillD] using q2
theorem sound_bld {t : TypeId} {parts : Array (Nat × Operand)} {ps : List (Nat × Nat × X)} {it : TypeInfo} {z : Value} {fields : Array Field} {places : List (Nat × Nat)} (ho : o.op = .build t parts) (hit : P.info? t = some it) (hz : it.zero = some z) (hu : P.underlying t = some (.struct fields))
    (hp : fields.toList.mapM (fun f => (P.info? f.type).map fun i => (f.offset, i.size)) = some places) (hl : parts.size = ps.length) (hps : ∀ k (h : k < parts.size) (h' : k < ps.length), places[(parts[k]'h).1]? = some ((ps[k]'h').1, (ps[k]'h').2.1) ∧ Operand.toX (parts[k]'h).2 = some (ps[k]'h').2.2)
    (h1 : z.cells.toList.all (·.oneCell') = true) (CA) (h : vcOp CA G (.bld (z.cells.toList.map .lit) ps) s H K) : OpA P G o s H K := by
  refine .pure fun F n c a w hr => ?_
  obtain ⟨hw, h⟩ := h
  have h0 : Cells c H (z.cells.toList.map .lit) z.cells.toList := by
    refine ⟨by simp, fun y hy => ?_, fun i hi => ?_⟩
    · obtain ⟨u, hu, rfl⟩ := List.mem_map.1 hy
      exact List.all_eq_true.1 h1 u hu
    · have := RdV.lits (c := c) (H := H) z.cells i hi
      simpa [Array.getD_eq_getD_getElem?, List.getD_eq_getElem?_getD] using this
  obtain ⟨arr', q1, q2⟩ := fill_cells (H := H) (c := c) (place := fun x => places[x]?) ((parts.map fun p => (p.1, a.eval p.2)).toList) (ps.map fun p => (p.1, p.2.1, p.2.2.val G s)) _ _ h0 (by simpa using hl) (fun k hk hk' => by
    simp only [Array.length_toList, Array.size_map] at hk
    simp only [List.length_map] at hk'
    obtain ⟨e1, e2⟩ := hps k hk hk'
    have hm := hw (ps[k]'hk') (List.getElem_mem hk')
    simp only [Array.getElem_toList, Array.getElem_map, List.getElem_map]
    exact ⟨e1, toX_ok hr e2, hm.1, hm.2.1, hm.2.2⟩)
  have hrun := run_build (P := P) w t (parts.map fun p => (p.1, a.eval p.2)) arr'.toArray (by
    unfold Program.built
    simp only [hit, hu, hz, hp]
    simpa using q1)
  refine ⟨.agg arr'.toArray, .agg (fillD (z.cells.toList.map .lit) ((ps.map fun p => (p.1, p.2.1, p.2.2.val G s)).map fun p => (p.1, p.2.2.leaves))), ?_, ?_, ?_⟩
  · simp only [execOp, ho, Sem.run_bind]
    have e1 : (parts.map fun (x : Nat × Operand) => match x with | (i, x) => (i, a.eval x)) = parts.map fun p => (p.1, a.eval p.2) := rfl
    rw [e1, hrun]; rfl
  · refine .agg _ _ (by simpa using q2.1) (fun i hi => q2.2.1 _ (List.getElem_mem hi)) (fun i hi => ?_)
    have := q2.2.2 i hi
    simpa [Array.getD_eq_getD_getElem?, List.getD_eq_getElem?_getD] using this
  · rw [List.map_map]; exact h
def frzD (d : D) (H : List O) : D × List O :=
  match d with
  | .row id ver => match H[id]? with
    | some (.row _ v e sz xs) => if ver = v then (.sl xs, H.set id (.row false v e sz xs)) else (d, H)
    | _ => (d, H)
  | .lit (.slice none 0 0) => (.sl [], H)
  | d => (d, H)
theorem Rel.frz {F : Frm} {n : Nat} {c : Conc} {σ : St} {a : Act} {w : World} (hr : Rel G F n c σ a w) (t : Nat) :
    ∃ c', Rel G F n c' ⟨upd σ.s t (frzD (σ.s t) σ.H).1, (frzD (σ.s t) σ.H).2⟩ a w ∧ Ext c σ.H c' (frzD (σ.s t) σ.H).2 := by
  have same : ∀ d', RdV c σ.H d' (a.tmps.getD t undef) → Rel G F n c ⟨upd σ.s t d', σ.H⟩ a w := by
    intro d' hd
    refine ⟨hr.defers, hr.size, fun i => ?_, hr.glob, hr.hp⟩
    simp only [upd]
    split
    · rename_i hi; subst hi; exact hd
    · exact hr.slots i
  have hs := hr.slots t
  generalize hd : σ.s t = d at hs ⊢
  have keep : ∃ c', Rel G F n c' ⟨upd σ.s t d, σ.H⟩ a w ∧ Ext c σ.H c' σ.H := ⟨c, same d hs, Ext.refl _ _⟩
  unfold frzD
  split
  · rename_i id ver
    split
    · rename_i xb v e sz xs hH
      split
      · rename_i hv
        subst hv
        obtain ⟨c', k1, k2, k3⟩ := hr.hp.freeze hH
        refine ⟨c', ⟨hr.defers, hr.size, fun i => ?_, fun g => (hr.glob g).ext k2, k1⟩, k2⟩
        simp only [upd]
        split
        · rename_i hi
          subst hi
          generalize he : a.tmps.getD i undef = v' at hs
          cases hs with
          | row _ _ sz' ob ao n' cap hob hk hver hκ =>
            rw [hH] at hob
            cases hob
            rw [hκ rfl]; exact k3
        · exact (hr.slots i).ext k2
      · exact keep
    · exact keep
  · refine ⟨c, same _ ?_, Ext.refl _ _⟩
    generalize he : a.tmps.getD t undef = v' at hs
    cases hs
    exact .sl [] none ⟨0, 0, none⟩ 0 0 (fun _ _ => undef) (Nat.le_refl _) (fun hp => by simp at hp) (fun j hj => by simp at hj) (fun j hj => by simp at hj) (fun j hj => by simp at hj) (fun j hj => by simp at hj)
  · exact keep
end
end Go.DL
set_option linter.unusedVariables false
set_option linter.unusedSimpArgs false
namespace Go.DL
open Go
open Go.ChangeMaps (setBlock)
section
variable {P : Program} {G : Nat → D} {o : Oper} {s : Nat → D} {H : List O} {K : D → List O → Prop}
theorem addr_add_zero (ad : Addr) : ad.add 0 = ad := by
  unfold Addr.add; split <;> simp_all
theorem one_leaves {d : D} (h : d.one = true) : d.leaves = [d] := by cases d <;> simp_all [D.one, D.leaves]
theorem sound_slcA {t e : TypeId} {x : Operand} {x' : X} {i : TypeInfo} {n : Nat} (ho : o.op = .slice t x none none none) (hx : Operand.toX x = some x') (ht : P.underlying t = some (.array n e)) (hi : P.info? e = some i) (h1 : i.size = 1) (CA) (h : vcOp CA G (.slcA n x') s H K) : OpA P G o s H K := by
  refine .pure fun F m c a w hr => ?_
  have hv := toX_ok hr hx
  simp only [vcOp] at h
  generalize x'.val G s = d at h hv
  generalize he : a.eval x = v at hv
  split at h
  · rename_i ys
    obtain ⟨hn, hK⟩ := h
    cases hv with
    | el _ ad vs g1 hΦ hr' =>
      have hlen : (ys.take n).length = n := by simp; omega
      have lv : ∀ j (q : j < (ys.take n).length), ((ys.take n)[j]'q).leaves = [ys[j]'(by omega)] := fun j q => by
        rw [List.getElem_take]; exact one_leaves (g1 _ _)
      refine ⟨.slice (some ad) (ys.take n).length n, _, ?_, ?_, hK⟩
      · rw [hlen]
        simp [execOp, ho, he, Instr.sliceAt, Instr.sureAddr, run_underlying ht, Instr.sliceBounds, sizeOf, typeInfo, hi, h1]
        by_cases hz : n = 0 <;> simp [hz, addr_add_zero]
      · refine .sl _ (some ad) ad n 1 (fun j _ => vs j) (by omega) (fun _ => rfl) (fun j q => by rw [lv j q]; rfl) (fun j q k q' => ?_) (fun j q k q' => ?_) (fun j q k q' => ?_)
        all_goals (have hk : k = 0 := by rw [lv j q] at q'; simp at q'; exact q'); subst hk
        · simp only [lv j q, List.getElem_cons_zero]; exact g1 _ _
        · simp only [Nat.mul_one, Nat.add_zero]; exact hΦ j (by omega)
        · simp only [lv j q, List.getElem_cons_zero]; exact hr' _ _
  · exact h.elim
theorem sound_idxA {t e : TypeId} {x y : Operand} {x' y' : X} {i : TypeInfo} {n : Nat} {agg : Bool} (ho : o.op = .index t x y) (hx : Operand.toX x = some x') (hy : Operand.toX y = some y') (ht : P.underlying t = some (.array n e)) (hi : P.info? e = some i)
    (hd : ∃ dd, P.underlying e = some dd ∧ agg = (match dd with | .struct _ => true | .array _ _ => true | _ => false)) (h1 : agg = false → i.size = 1) (CA) (h : vcOp CA G (.idxA i.size n agg x' y') s H K) : OpA P G o s H K := by
  refine .pure fun F m c a w hr => ?_
  have hv := toX_ok hr hx
  have hv' := toX_ok hr hy
  simp only [vcOp] at h
  generalize x'.val G s = d at h hv
  generalize y'.val G s = d' at h hv'
  generalize he : a.eval x = v at hv
  generalize he' : a.eval y = v' at hv'
  split at h
  · rename_i ys kk k
    obtain ⟨h0, hlt, hn, hK⟩ := h
    cases hv'
    have hv0 := hv
    cases hv with
    | agg _ cs k1 k2 k3 =>
      refine ⟨_, _, ?_, hv0.part hn h1, hK⟩
      obtain ⟨d, hd, ha⟩ := hd
      have hlt' : agg = false → k.toNat * i.size < cs.size := fun q => by have := h1 q; omega
      cases agg with
      | true => cases d <;> simp at ha <;> simp [execOp, ho, he, he', Instr.index, asIntOf, run_underlying ht, h0, hlt, part, isAgg, run_underlying hd, sizeOf, typeInfo, hi]
      | false =>
        have := hlt' rfl
        cases d <;> simp at ha <;> simp [execOp, ho, he, he', Instr.index, asIntOf, run_underlying ht, h0, hlt, part, isAgg, run_underlying hd, sizeOf, typeInfo, hi, this, Array.getD]
  · exact h.elim
theorem foldl_bytes : ∀ (bs : List UInt8) (r : ByteArray), (bs.map fun b => (b.toNat : Int)).foldl (fun r n => r.push (UInt8.ofNat n.toNat)) r = ⟨r.data ++ bs.toArray⟩
  | [], r => by simp
  | b :: bs, r => by
    simp only [List.map_cons, List.foldl_cons]
    rw [foldl_bytes bs]
    simp [ByteArray.push]
theorem sound_str {src dst e : TypeId} {x : Operand} {x' : X} (ho : o.op = .convert src dst x) (hx : Operand.toX x = some x') (hs : P.underlying src = some (.slice e)) (he0 : P.underlying e = some (.int .u8)) (hd : P.underlying dst = some .string) (CA) (h : vcOp CA G (.str x') s H K) : OpA P G o s H K := by
  refine .pure fun F m c a w hr => ?_
  have hv := toX_ok hr hx
  simp only [vcOp] at h
  obtain ⟨bs, hb, hK⟩ := h
  rw [hb] at hv
  generalize he : a.eval x = v at hv
  cases hv with
  | sl _ al ad cap sz vs hcap ha hs' h1 hΦ hr' =>
    refine ⟨_, _, ?_, .lit _, hK⟩
    have lv : ∀ j (q : j < (bs.map fun b => D.lit (.int .u8 b.toNat)).length), ((bs.map fun b => D.lit (.int .u8 b.toNat))[j]'q).leaves = [.lit (.int .u8 ((bs[j]'(by simpa using q)).toNat))] := fun j q => by
      rw [List.getElem_map]; rfl
    cases al with
    | none =>
      have hnil : bs = [] := by
        cases bs with
        | nil => rfl
        | cons b bs => have := ha (by simp); cases this
      subst hnil
      simp [execOp, ho, he, convert, run_underlying hs, run_underlying hd, run_underlying he0, Conv.bytesToString]
      rfl
    | some al =>
      have hrun := run_bytesToString (P := P) w al bs.length cap (bs.map fun b => (b.toNat : Int)) (by
        have := run_loadCells_list (P := P) (w := w) al ((bs.map fun b => (b.toNat : Int)).map (Value.int .u8)) (fun j v hj => by
          simp only [List.map_map, List.getElem?_map, Option.map_eq_some_iff, Function.comp] at hj
          obtain ⟨b, hb', rfl⟩ := hj
          have hjl : j < bs.length := (List.getElem?_eq_some_iff.1 hb').1
          have hjl' : j < (bs.map fun b => D.lit (.int .u8 b.toNat)).length := by simpa using hjl
          have had : some al = some ad := ha (by omega)
          injection had with had
          subst had
          have hsz : sz = 1 := by have := hs' j hjl'; rw [lv j hjl'] at this; simpa using this.symm
          subst hsz
          have q0 : 0 < ((bs.map fun b => D.lit (.int .u8 b.toNat))[j]'hjl').leaves.length := by rw [lv j hjl']; simp
          have e1 := hr.hp.good _ _ (hΦ j hjl' 0 q0)
          have e2 := hr' j hjl' 0 q0
          simp only [lv j hjl', List.getElem_cons_zero] at e2
          simp only [Nat.mul_one, Nat.add_zero] at e1
          rw [e1]
          have : bs[j]'hjl = b := (List.getElem?_eq_some_iff.1 hb').2
          rw [this] at e2
          generalize vs j 0 = u at e2
          cases e2
          rfl)
        simpa using this)
      rw [foldl_bytes] at hrun
      simp [execOp, ho, he, convert, run_underlying hs, run_underlying hd, run_underlying he0, hrun]
theorem findNow_eq {kd : TypeDesc} {k : Value} (hk : MapKept.IsKey kd k) : ∀ (l : List MapEntry) (i : Nat), (∀ x ∈ l, MapKept.IsKey kd x.key) →
    Instr.findNow kd k l i = some ((l.findIdx? fun x => Instr.sameNow kd k x.key == some true).map fun j => (i + j, (l.getD j default).val))
  | [], i, _ => by simp [Instr.findNow]
  | e :: es, i, h => by
    obtain ⟨r, hr, _⟩ := MapKept.sameNow_of_keys hk (h e (.head _))
    cases r with
    | true => simp [Instr.findNow, hr, List.findIdx?_cons]
    | false =>
      simp only [Instr.findNow, hr]
      rw [findNow_eq hk es (i + 1) fun x hx => h x (.tail _ hx)]
      simp only [List.findIdx?_cons, hr]
      simp only [beq_iff_eq, Option.some.injEq, Bool.false_eq_true, if_false, Option.map_map]
      congr 2
      funext j
      simp
      omega
theorem Entries.keys {c : Conc} {es : List (Value × D)} {ms : Array MapEntry} (h : Entries c H es ms) : ms.toList.map (·.key) = es.map (·.1) := by
  refine List.ext_getElem (by simp [h.1]) fun i h1 h2 => ?_
  have := (h.2 i (by simpa using h2)).1
  simp only [List.getElem_map]
  rw [← this]
  simp at h1
  simp [List.getD_eq_getElem?_getD, List.getElem?_eq_getElem, h1]
theorem Entries.find {c : Conc} {es : List (Value × D)} {ms : Array MapEntry} (h : Entries c H es ms) (kd : TypeDesc) (k : Value) : (ms.toList.findIdx? fun x => Instr.sameNow kd k x.key == some true) = findE kd k es := by
  have e1 : (ms.toList.findIdx? fun x => Instr.sameNow kd k x.key == some true) = (ms.toList.map (·.key)).findIdx? fun v => Instr.sameNow kd k v == some true := by
    rw [List.findIdx?_map]; rfl
  have e2 : findE kd k es = (es.map (·.1)).findIdx? fun v => Instr.sameNow kd k v == some true := by
    rw [List.findIdx?_map]; rfl
  rw [e1, e2, h.keys]
theorem Entries.isKey {c : Conc} {es : List (Value × D)} {ms : Array MapEntry} (h : Entries c H es ms) {kd : TypeDesc} (hk : ∀ p ∈ es, MapKept.IsKey kd p.1) : ∀ x ∈ ms.toList, MapKept.IsKey kd x.key := by
  intro x hx
  have : x.key ∈ es.map (·.1) := by rw [← h.keys]; exact List.mem_map.2 ⟨x, hx, rfl⟩
  obtain ⟨p, hp, e⟩ := List.mem_map.1 this
  rw [← e]; exact hk p hp
theorem grownBy_setBlock (w : World) (g : Nat) (ob : Obj) : w.grownBy (setBlock w g ob) (some g) :=
  ⟨rfl, rfl, rfl, by simp [setBlock], fun k hk hne => by
    simp only [setBlock]
    rw [Array.getElem?_setIfInBounds_ne]
    intro e; exact hne (by rw [e])⟩
theorem RelH.setMap {F : Frm} {c : Conc} {w : World} (h : RelH F c H w) {id mv b clock' : Nat} {es es' : List (Value × D)} {ms' : Array MapEntry} (hH : H[id]? = some (.map mv es)) (hκ : c.κ id = .map (some b))
    (he : Entries c H es' ms') (hn : (ms'.toList.map (·.born)).Nodup) (hc : ∀ m ∈ ms'.toList, m.born < clock') :
    RelH F c (H.set id (.map (mv + 1) es')) (setBlock w b (.map ms' clock')) ∧ Ext c H c (H.set id (.map (mv + 1) es')) := by
  have hid : id < H.length := (List.getElem?_eq_some_iff.1 hH).1
  have hb : blk (c.κ id) = some b := by rw [hκ]; rfl
  obtain ⟨b', ms, clock, o1, o2, o3, o4⟩ := h.objs id _ hH
  rw [hκ] at o1
  have hbb : b = b' := by injection o1 with q; injection q
  subst hbb
  have hE : Ext c H c (H.set id (.map (mv + 1) es')) := .set hH rfl rfl
  refine ⟨h.step (some b) id (grownBy_setBlock _ _ _) (fun b' hb' => ⟨hid, by rw [← hb']; exact hb⟩) hE (fun _ _ _ => rfl) (fun j hj => List.getElem?_set_ne (by omega)) (fun a u ha => .inl ha)
      (fun a u ha hrow => ?_) ?_ (fun b' _ hb' => .inl ⟨hid, hb'⟩) ?_, hE⟩
  · have := h.good a u ha
    simp only [World.cell?] at this
    injection hrow with hrow
    rw [← hrow, o2] at this
    cases this
  · intro p hp
    rw [List.getElem?_set_self hid] at hp
    cases hp
    have hlt : b < w.heap.size := (Array.getElem?_eq_some_iff.1 o2).1
    exact ⟨b, ms', clock', hκ, by simp [setBlock, hlt], ⟨he.1, fun i hi => ⟨(he.2 i hi).1, ((he.2 i hi).2).ext hE⟩⟩, hn, hc⟩
  · intro ver es0 hm
    rw [hH] at hm; cases hm
    exact ⟨_, _, List.getElem?_set_self hid, rfl, by omega, fun q => by omega⟩
theorem sound_mput {t kt et : TypeId} {kd : TypeDesc} {x k y : Operand} {x' k' y' : X} (ho : o.op = .mapUpdate t x k y) (hx : Operand.toX x = some x') (hk : Operand.toX k = some k') (hy : Operand.toX y = some y') (ht : P.underlying t = some (.map kt et)) (hkd : P.underlying kt = some kd) (CA)
    (h : vcOp CA G (.mput kd x' k' y') s H K) : OpA P G o s H K := by
  intro F n c a w hr
  have hv := toX_ok hr hx
  have hv' := toX_ok hr hk
  have hv'' := toX_ok hr hy
  simp only [vcOp] at h
  simp only at hv hv' hv''
  generalize x'.val G s = d at h hv
  generalize k'.val G s = d' at h hv'
  generalize y'.val G s = d'' at h hv''
  generalize he : a.eval x = v at hv
  generalize he' : a.eval k = v' at hv'
  generalize he'' : a.eval y = v'' at hv''
  refine .inr (.inl ?_)
  split at h
  · rename_i id kv
    have hkv : v' = kv := by cases hv'; rfl
    rw [hkv] at he'
    split at h
    · rename_i mv es hH
      obtain ⟨hk1, hk2, hK⟩ := h
      cases hv with
      | mp _ b ob hob hkk hver hκ =>
        have hid : id < H.length := (List.getElem?_eq_some_iff.1 hH).1
        obtain ⟨b', ms, clock, o1, o2, o3, o4, o5⟩ := hr.hp.objs id _ hH
        rw [hκ] at o1
        have hbb : b = b' := by injection o1 with q; injection q
        subst hbb
        have hf := findNow_eq hk1 ms.toList 0 (o3.isKey hk2)
        rw [o3.find] at hf
        cases hfe : findE kd kv es with
        | none =>
          rw [hfe] at hf
          have hput : putE kd kv d'' es = es ++ [(kv, d'')] := by simp [putE, hfe]
          have q1 : Entries c H (es ++ [(kv, d'')]) (ms.push { key := kv, val := v'', born := clock }) := by
            refine ⟨by simp [o3.1], fun i hi => ?_⟩
            simp only [List.length_append, List.length_singleton] at hi
            by_cases hlt : i < es.length
            · have e1 : (ms.push { key := kv, val := v'', born := clock }).toList.getD i default = ms.toList.getD i default := by
                simp only [Array.toList_push, List.getD_eq_getElem?_getD]
                rw [List.getElem?_append_left (by simp [o3.1, hlt])]
              rw [e1, List.getElem_append_left hlt]
              exact o3.2 i hlt
            · have hi' : i = es.length := by omega
              subst hi'
              have e1 : (ms.push { key := kv, val := v'', born := clock }).toList.getD es.length default = { key := kv, val := v'', born := clock } := by
                simp only [Array.toList_push, List.getD_eq_getElem?_getD]
                rw [List.getElem?_append_right (by simp [o3.1])]
                simp [o3.1]
              rw [e1, List.getElem_append_right (Nat.le_refl _)]
              simp only [Nat.sub_self, List.getElem_cons_zero]
              exact ⟨trivial, hv''⟩
          have q2 : ((ms.push { key := kv, val := v'', born := clock }).toList.map (·.born)).Nodup := by
            simp only [Array.toList_push, List.map_append, List.map_cons, List.map_nil]
            refine List.nodup_append.2 ⟨o4, by simp, ?_⟩
            intro p hp q hq
            simp only [List.mem_singleton] at hq
            subst hq
            obtain ⟨m, hm, rfl⟩ := List.mem_map.1 hp
            exact Nat.ne_of_lt (o5 m hm)
          have q3 : ∀ m ∈ (ms.push { key := kv, val := v'', born := clock }).toList, m.born < clock + 1 := by
            intro m hm
            simp only [Array.toList_push, List.mem_append, List.mem_singleton] at hm
            rcases hm with hm | rfl
            · exact Nat.lt_succ_of_lt (o5 m hm)
            · exact Nat.lt_succ_self _
          obtain ⟨r1, r2⟩ := RelH.setMap (w := w) hr.hp hH hκ (es' := es ++ [(kv, d'')]) (ms' := ms.push { key := kv, val := v'', born := clock }) (clock' := clock + 1) q1 q2 q3
          rw [hput] at hK
          refine ⟨_, c, _, ?_, r1, r2, hK⟩
          simp only [Option.map_none] at hf
          simp [execOp, ho, he, he', he'', Instr.mapUpdate, run_underlying ht, MapKept.run_getObj_map o2, MapKept.run_checkKey hkd hk1, MapKept.run_findKey hkd hf, MapKept.run_setObj_map _ o2, setBlock]
        | some j =>
          rw [hfe] at hf
          have hput : putE kd kv d'' es = es.set j (kv, d'') := by simp [putE, hfe]
          have hj : j < es.length := by
            have := List.findIdx?_eq_some_iff_getElem.1 hfe
            exact this.1
          have hj' : j < ms.size := by rw [o3.1]; exact hj
          have hkey : (ms[j]'hj').key = kv := by
            have h1 := (List.findIdx?_eq_some_iff_getElem.1 hfe).2.1
            have h2 := (o3.2 j hj).1
            simp only [beq_iff_eq] at h1
            obtain ⟨r, hr1, hr2⟩ := MapKept.sameNow_of_keys hk1 (hk2 (es[j]'hj) (List.getElem_mem _))
            rw [h1] at hr1
            injection hr1 with hr1
            have h3 := hr2.1 hr1.symm
            rw [h3, ← h2]
            simp [List.getD_eq_getElem?_getD, hj']
          have hborn : (ms.modify j fun e => { e with key := kv, val := v'' }).toList.map (·.born) = ms.toList.map (·.born) := by
            apply List.ext_getElem?
            intro i
            simp only [List.getElem?_map, Array.getElem?_toList, Array.getElem?_modify]
            by_cases hij : j = i
            · subst hij
              cases ms[j]? <;> simp
            · simp [hij]
          have q1 : Entries c H (es.set j (kv, d'')) (ms.modify j fun e => { e with key := kv, val := v'' }) := by
            refine ⟨by simp [o3.1], fun i hi => ?_⟩
            simp only [List.length_set] at hi
            have hi' : i < ms.size := by rw [o3.1]; exact hi
            have e1 : (ms.modify j fun e => { e with key := kv, val := v'' }).toList.getD i default = if j = i then { (ms[i]'hi') with key := kv, val := v'' } else ms.toList.getD i default := by
              simp only [List.getD_eq_getElem?_getD, Array.getElem?_toList, Array.getElem?_modify]
              by_cases hij : j = i <;> simp [hij, hi']
            rw [e1, List.getElem_set]
            by_cases hij : j = i
            · simp only [hij, if_true]; exact ⟨trivial, hv''⟩
            · simp only [hij, if_false]; exact o3.2 i hi
          have q2 : ((ms.modify j fun e => { e with key := kv, val := v'' }).toList.map (·.born)).Nodup := by
            rw [hborn]; exact o4
          have q3 : ∀ m ∈ (ms.modify j fun e => { e with key := kv, val := v'' }).toList, m.born < clock := by
            intro m hm
            have : m.born ∈ (ms.modify j fun e => { e with key := kv, val := v'' }).toList.map (·.born) := List.mem_map.2 ⟨m, hm, rfl⟩
            rw [hborn] at this
            obtain ⟨m', hm', e⟩ := List.mem_map.1 this
            rw [← e]; exact o5 m' hm'
          obtain ⟨r1, r2⟩ := RelH.setMap (w := w) hr.hp hH hκ (es' := es.set j (kv, d'')) (ms' := ms.modify j fun e => { e with key := kv, val := v'' }) (clock' := clock) q1 q2 q3
          rw [hput] at hK
          refine ⟨_, c, _, ?_, r1, r2, hK⟩
          simp only [Option.map_some, Nat.zero_add] at hf
          simp [execOp, ho, he, he', he'', Instr.mapUpdate, run_underlying ht, MapKept.run_getObj_map o2, MapKept.run_checkKey hkd hk1, MapKept.run_findKey hkd hf, MapKept.run_setObj_map _ o2, setBlock, hj', hkey, MapKept.run_keyThatStays hk1]
    · exact h.elim
  · exact h.elim
theorem RdV.tup2 {c : Conc} {H : List O} {d e : D} {u v : Value} (h : RdV c H d u) (k : RdV c H e v) : RdV c H (.tup [d, e]) (.tuple #[u, v]) := by
  refine .tup _ _ rfl fun i hi => ?_
  match i, hi with
  | 0, _ => exact h
  | 1, _ => exact k
theorem sound_mget {t kt et : TypeId} {kd : TypeDesc} {i : TypeInfo} {z : Value} {ok : Bool} {x k : Operand} {x' k' : X} (ho : o.op = .lookup t x k ok) (hx : Operand.toX x = some x') (hk : Operand.toX k = some k') (ht : P.underlying t = some (.map kt et)) (hkd : P.underlying kt = some kd)
    (hi : P.info? et = some i) (hz : i.zero = some z) (CA) (h : vcOp CA G (.mget kd z ok x' k') s H K) : OpA P G o s H K := by
  refine .pure fun F n c a w hr => ?_
  have hv := toX_ok hr hx
  have hv' := toX_ok hr hk
  simp only [vcOp] at h
  generalize x'.val G s = d at h hv
  generalize k'.val G s = d' at h hv'
  generalize he : a.eval x = v at hv
  generalize he' : a.eval k = v' at hv'
  split at h
  · rename_i id kv
    have hkv : v' = kv := by cases hv'; rfl
    rw [hkv] at he'
    split at h
    · rename_i mv es hH
      obtain ⟨hk1, hk2, hK⟩ := h
      cases hv with
      | mp _ b ob hob hkk hver hκ =>
        obtain ⟨b', ms, clock, o1, o2, o3, o4, o5⟩ := hr.hp.objs id _ hH
        rw [hκ] at o1
        have hbb : b = b' := by injection o1 with q; injection q
        subst hbb
        have hf := findNow_eq hk1 ms.toList 0 (o3.isKey hk2)
        rw [o3.find] at hf
        cases hfe : findE kd kv es with
        | none =>
          rw [hfe] at hf
          simp only [Option.map_none] at hf
          have hget : getE kd kv es = none := by simp [getE, hfe]
          rw [hget] at hK
          refine ⟨if ok then .tuple #[z, .bool false] else z, _, ?_, ?_, hK⟩
          · cases ok <;> simp [execOp, ho, he, he', Instr.lookup, run_underlying ht, MapKept.run_getObj_map o2, MapKept.run_checkKey hkd hk1, MapKept.run_findKey hkd hf, zeroValue, typeInfo, hi, hz]
          · cases ok
            · exact .lit z
            · exact RdV.tup2 (.lit z) (.lit _)
        | some j =>
          rw [hfe] at hf
          simp only [Option.map_some, Nat.zero_add] at hf
          have hj : j < es.length := (List.findIdx?_eq_some_iff_getElem.1 hfe).1
          have hget : getE kd kv es = some (es[j]'hj).2 := by simp [getE, hfe, hj]
          rw [hget] at hK
          have hval := (o3.2 j hj).2
          refine ⟨if ok then .tuple #[(ms.toList.getD j default).val, .bool true] else (ms.toList.getD j default).val, _, ?_, ?_, hK⟩
          · cases ok <;> simp [execOp, ho, he, he', Instr.lookup, run_underlying ht, MapKept.run_getObj_map o2, MapKept.run_checkKey hkd hk1, MapKept.run_findKey hkd hf]
          · cases ok
            · exact hval
            · exact RdV.tup2 hval (.lit _)
    · exact h.elim
  · exact h.elim
theorem sound_rng {t kt et : TypeId} {x : Operand} {x' : X} (ho : o.op = .range t x) (hx : Operand.toX x = some x') (ht : P.underlying t = some (.map kt et)) (CA) (h : vcOp CA G (.rng x') s H K) : OpA P G o s H K := by
  intro F n c a w hr
  have hv := toX_ok hr hx
  simp only [vcOp] at h
  simp only at hv
  generalize x'.val G s = d at h hv
  generalize he : a.eval x = v at hv
  split at h
  · rename_i id
    split at h
    · rename_i mv es hH
      cases hv with
      | mp _ b ob hob hkk hver hκ =>
        have hid : id < H.length := (List.getElem?_eq_some_iff.1 hH).1
        obtain ⟨b', ms, clock, o1, o2, o3, o4, o5⟩ := hr.hp.objs id _ hH
        rw [hκ] at o1
        have hbb : b = b' := by injection o1 with q; injection q
        subst hbb
        have hlt : b < w.heap.size := (Array.getElem?_eq_some_iff.1 o2).1
        refine .inl ⟨.pointer (some ⟨w.heap.size, 0, none⟩), w.alloc (.mapIter (some b) clock #[] clock), updκ c H.length (.pointer (some ⟨w.heap.size, 0, none⟩)), H ++ [.iter id mv es none], .it H.length, ?_, ?_, Ext.push _ _, ?_, h⟩
        · simp [execOp, ho, he, Instr.range, run_underlying ht, MapKept.run_getObj_map o2]
        · refine hr.hp.push (World.grownBy_alloc w _ none) _ _ (fun b' hb' => by simp only [blk, Option.some.injEq] at hb'; omega) ?_
          refine ⟨w.heap.size, b, clock, #[], clock, mv, es, by simp [updκ], heap_alloc_new w _, ?_, ?_, Nat.le_refl _, fun _ => ⟨ms, ?_, rfl, o3.1, ?_, fun k d q => by cases q⟩⟩
          · simp only [updκ]; rw [if_neg (by omega)]; exact hκ
          · rw [List.getElem?_append_left hid]; exact hH
          · rw [← o2]; exact (MapKept.heap_alloc w _).2 b hlt
          · have e0 : ((es.zip ms.toList).filter fun p => !(#[] : Array Nat).contains p.2.born) = es.zip ms.toList := List.filter_eq_self.2 fun _ _ => by simp
            rw [e0, List.map_fst_zip (by simp [o3.1])]
        · exact .it H.length _ _ (by rw [getElem?_snoc, if_pos rfl]) rfl rfl (by simp [updκ])
    · exact h.elim
  · exact h.elim
theorem filter_ne {α : Type} (f : α → Nat) : ∀ (L : List α) (i : Nat) (h : i < L.length), (L.map f).Nodup → L.filter (fun x => f x != f (L[i]'h)) = L.eraseIdx i
  | [], i, h, _ => by simp at h
  | x :: L, 0, h, hn => by
    simp only [List.map_cons, List.nodup_cons] at hn
    simp only [List.getElem_cons_zero, List.eraseIdx_cons_zero, List.filter_cons, bne_self_eq_false, Bool.false_eq_true, if_false]
    refine List.filter_eq_self.2 fun y hy => ?_
    simp only [bne_iff_ne, ne_eq]
    intro e
    exact hn.1 (List.mem_map.2 ⟨y, hy, e⟩)
  | x :: L, i + 1, h, hn => by
    simp only [List.map_cons, List.nodup_cons] at hn
    simp only [List.getElem_cons_succ, List.eraseIdx_cons_succ, List.filter_cons]
    have : (f x != f (L[i]'(by simpa using h))) = true := by
      simp only [bne_iff_ne, ne_eq]
      intro e
      exact hn.1 (List.mem_map.2 ⟨_, List.getElem_mem _, e.symm⟩)
    rw [if_pos this, filter_ne f L i (by simpa using h) hn.2]
theorem sound_nxt {x : Operand} {x' : X} (ho : o.op = .next x false) (hx : Operand.toX x = some x') (CA) (h : vcOp CA G (.nxt x') s H K) : OpA P G o s H K := by
  intro F n c a w hr
  have hv := toX_ok hr hx
  simp only [vcOp] at h
  simp only at hv
  generalize x'.val G s = d at h hv
  generalize he : a.eval x = v at hv
  split at h
  · rename_i id
    split at h
    · rename_i m mv left cur hH
      split at h
      · rename_i mv' es hM
        obtain ⟨rfl, hK0, hK1⟩ := h
        cases hv with
        | it _ b ob hob hkk hver hκ =>
          have hid : id < H.length := (List.getElem?_eq_some_iff.1 hH).1
          have hml : m < H.length := (List.getElem?_eq_some_iff.1 hM).1
          obtain ⟨b', bm, since, seen, last, ver, es', o1, o2, o3, o4, o5, o6⟩ := hr.hp.objs id _ hH
          rw [hκ] at o1
          have hbb : b = b' := by injection o1 with q; injection q with q; injection q
          subst hbb
          rw [hM] at o4; cases o4
          obtain ⟨ms, p1, rfl, p3, p4, p5⟩ := o6 rfl
          obtain ⟨bm', ms', clock, q1, q2, q3, q4, q5⟩ := hr.hp.objs m _ hM
          rw [o3] at q1
          have hbm : bm = bm' := by injection q1 with q; injection q
          subst hbm
          rw [p1] at q2; cases q2
          have hL : (leftOf ms seen).toList = ((es.zip ms.toList).filter fun p => !seen.contains p.2.born).map (·.2) := by
            unfold leftOf
            rw [Array.toList_filter]
            have e2 : ms.toList = (es.zip ms.toList).map (·.2) := by rw [List.map_snd_zip (by simp [p3])]
            conv => lhs; rw [e2]
            rw [List.filter_map]; rfl
          have hnd : (((es.zip ms.toList).filter fun p => !seen.contains p.2.born).map fun p => p.2.born).Nodup := by
            have e2 : ((es.zip ms.toList).map fun p => p.2.born) = ms.toList.map (·.born) := by
              have : ((es.zip ms.toList).map fun p => p.2.born) = ((es.zip ms.toList).map (·.2)).map (·.born) := by rw [List.map_map]; rfl
              rw [this, List.map_snd_zip (by simp [p3])]
            refine List.Nodup.sublist (List.Sublist.map _ List.filter_sublist) ?_
            rw [e2]; exact q4
          rcases run_next_at (P := P) w o.type b bm last last seen ms last o2 p1 q5 (Nat.le_refl _) with ⟨z1, z2⟩ | ⟨e, z1, w1, z2, z3⟩
          · have hl0 : left = [] := by
              have : (leftOf ms seen).toList.length = 0 := by simpa using z1
              rw [hL, List.length_map, List.length_eq_zero_iff] at this
              rw [p4, this]; rfl
            refine .inl ⟨.tuple #[.bool false], w, c, H, _, ?_, hr.hp, Ext.refl _ _, ?_, hK0 hl0⟩
            · simp [execOp, ho, he, z2]
            · exact .tup _ _ rfl fun i hi => by
                match i, hi with
                | 0, _ => exact .lit _
          · rw [hL] at z1
            obtain ⟨p, hp, rfl⟩ := List.mem_map.1 z1
            obtain ⟨i, hi, hpi⟩ := List.mem_iff_getElem.1 hp
            have hil : i < left.length := by rw [p4]; simpa using hi
            have hli : left[i]'hil = p.1 := by
              have : left[i]? = some p.1 := by rw [p4, List.getElem?_map, List.getElem?_eq_getElem hi, hpi]; rfl
              rw [List.getElem?_eq_getElem hil] at this
              injection this

            obtain ⟨j, hj, hpj⟩ := List.mem_iff_getElem.1 (List.mem_filter.1 hp).1
            simp only [List.length_zip, Array.length_toList] at hj
            have hj1 : j < es.length := by omega
            have hj2 : j < ms.size := by omega
            have hp1 : p.1 = es[j]'hj1 := by rw [← hpj]; simp
            have hp2 : p.2 = ms.toList.getD j default := by rw [← hpj]; simp [List.getD_eq_getElem?_getD, hj2]
            have hent := q3.2 j hj1
            rw [← hp1, ← hp2] at hent
            have hw1 : RelH F c H w1 := by rcases z2 with rfl | rfl; exact hr.hp; exact hr.hp.drew
            have o2' : w1.heap[b]? = some (.mapIter (some bm) last seen last) := by rcases z2 with rfl | rfl <;> exact o2
            have p1' : w1.heap[bm]? = some (.map ms last) := by rcases z2 with rfl | rfl <;> exact p1
            have hb : blk (c.κ id) = some b := by rw [hκ]; rfl
            have hlt : b < w1.heap.size := (Array.getElem?_eq_some_iff.1 o2').1
            have hE : Ext c H c (H.set id (.iter m mv (left.eraseIdx i) (some (left[i]'hil)))) := .set hH rfl rfl
            have hmid : m ≠ id := by intro e; subst e; rw [hM] at hH; cases hH
            have hbne : bm ≠ b := by intro e; subst e; rw [p1] at o2; cases o2
            refine .inl ⟨.tuple #[.bool true, p.2.key, p.2.val], setBlock w1 b (.mapIter (some bm) last (seen.push p.2.born) last), c, H.set id (.iter m mv (left.eraseIdx i) (some (left[i]'hil))), .tup [.lit (.bool true), .lit (left[i]'hil).1, (left[i]'hil).2], ?_, ?_, hE, ?_, hK1 i hil⟩
            · simp [execOp, ho, he, z3]
            · refine hw1.step (some b) id (grownBy_setBlock _ _ _) (fun b' hb' => ⟨hid, by rw [← hb']; exact hb⟩) hE (fun _ _ _ => rfl) (fun j hj => List.getElem?_set_ne (by omega)) (fun a u ha => .inl ha)
                (fun a u ha hrow => ?_) ?_ (fun b' _ hb' => .inl ⟨hid, hb'⟩) ?_
              · have := hw1.good a u ha
                simp only [World.cell?] at this
                injection hrow with hrow
                rw [← hrow, o2'] at this
                cases this
              · intro p' hp'
                rw [List.getElem?_set_self hid] at hp'
                cases hp'
                refine ⟨b, bm, last, seen.push p.2.born, last, mv, es, hκ, by simp [setBlock, hlt], o3, by rw [List.getElem?_set_ne (fun e => hmid e.symm)]; exact hM, Nat.le_refl _, fun _ => ⟨ms, ?_, rfl, p3, ?_, ?_⟩⟩
                · simp only [setBlock]
                  rw [Array.getElem?_setIfInBounds_ne (fun e => hbne e.symm)]
                  exact p1'
                · have e1 : ((es.zip ms.toList).filter fun q => !(seen.push p.2.born).contains q.2.born) = ((es.zip ms.toList).filter fun q => !seen.contains q.2.born).filter fun q => q.2.born != p.2.born := by
                    rw [List.filter_filter]
                    refine List.filter_congr fun q _ => ?_
                    simp only [Array.contains_push]
                    cases seen.contains q.2.born <;> simp [bne, Bool.beq_eq_decide_eq]
                  have e2 := filter_ne (fun q : (Value × D) × MapEntry => q.2.born) ((es.zip ms.toList).filter fun q => !seen.contains q.2.born) i hi hnd
                  rw [hpi] at e2
                  rw [e1, e2, ChangeMaps.map_eraseIdx, p4]
                · intro k d hkd
                  refine ⟨j, hj1, ?_, ?_⟩
                  · injection hkd with hkd
                    rw [← hp1, ← hli]; exact hkd
                  · rw [Array.back?_push, hp2]
              · intro ver es0 hm
                rw [hH] at hm; cases hm
            · rw [hli]
              refine .tup _ _ rfl fun i hi => ?_
              match i, hi with
              | 0, _ => exact .lit _
              | 1, _ => rw [← hent.1]; exact .lit _
              | 2, _ => rw [hli] at hE; exact hent.2.ext hE
      · exact h.elim
    · exact h.elim
  · exact h.elim
theorem sound_ent {x : Operand} {x' : X} (ho : o.op = .entry x) (hx : Operand.toX x = some x') (CA) (h : vcOp CA G (.ent x') s H K) : OpA P G o s H K := by
  refine .pure fun F n c a w hr => ?_
  have hv := toX_ok hr hx
  simp only [vcOp] at h
  generalize x'.val G s = d at h hv
  generalize he : a.eval x = v at hv
  split at h
  · rename_i id
    split at h
    · rename_i m mv left k d hH
      split at h
      · rename_i mv' es hM
        obtain ⟨rfl, hK⟩ := h
        cases hv with
        | it _ b ob hob hkk hver hκ =>
          obtain ⟨b', bm, since, seen, last, ver, es', o1, o2, o3, o4, o5, o6⟩ := hr.hp.objs id _ hH
          rw [hκ] at o1
          have hbb : b = b' := by injection o1 with q; injection q with q; injection q
          subst hbb
          rw [hM] at o4; cases o4
          obtain ⟨ms, p1, rfl, p3, p4, p5⟩ := o6 rfl
          obtain ⟨bm', ms', clock, q1, q2, q3, q4, q5⟩ := hr.hp.objs m _ hM
          rw [o3] at q1
          have hbm : bm = bm' := by injection q1 with q; injection q
          subst hbm
          rw [p1] at q2; cases q2
          obtain ⟨j, hj, hjd, hjb⟩ := p5 k d rfl
          have hj2 : j < ms.size := by rw [p3]; exact hj
          have hent := q3.2 j hj
          rw [hjd] at hent
          have hpush : ∃ s0 : Array Nat, seen = s0.push (ms.toList.getD j default).born := by
            refine ⟨seen.pop, ?_⟩
            have : seen.size ≠ 0 := by intro e; simp [Array.back?, e] at hjb
            rw [Array.back?_eq_getElem?] at hjb
            apply Array.ext'
            have hne : seen.toList ≠ [] := by intro e; apply this; rw [← Array.length_toList, e]; rfl
            simp only [Array.toList_push, Array.toList_pop]
            have hl : seen.toList.getLast hne = (ms.toList.getD j default).born := by
              rw [List.getLast_eq_getElem]
              have := hjb
              rw [← Array.getElem?_toList, List.getElem?_eq_some_iff] at this
              obtain ⟨_, h2⟩ := this
              simpa using h2
            rw [← hl]
            exact (List.dropLast_concat_getLast hne).symm
          obtain ⟨s0, hs0⟩ := hpush
          rw [hs0] at o2
          have hmem : ms.toList.getD j default ∈ ms.toList := by
            simp only [List.getD_eq_getElem?_getD, Array.getElem?_toList, Array.getElem?_eq_getElem hj2, Option.getD_some]
            simp
          have hrun := run_entry_at (P := P) w b bm last s0 ms last (ms.toList.getD j default) o2 p1 hmem q4
          refine ⟨.tuple #[(ms.toList.getD j default).key, (ms.toList.getD j default).val], _, ?_, RdV.tup2 (.lit _) hent.2, by rw [show k = (ms.toList.getD j default).key from hent.1.symm] at hK; exact hK⟩
          simp [execOp, ho, he, hrun]
      · exact h.elim
    · exact h.elim
  · exact h.elim
end
end Go.DL
set_option linter.unusedVariables false
set_option linter.unusedSimpArgs false
namespace Go.DL
open Go
section
variable {P : Program} {G : Nat → D} {n : Nat}
def outs (ops : Array Oper) (val : Nat → D) (s : Nat → D) (l : List Nat) : Nat → D :=
  l.foldl (fun s i => match (ops[i]?).bind (·.dst) with | some d => upd s d (val i) | none => s) s
def Agree (ops : Array Oper) (val : Nat → D) (s : Nat → D) (o : Oper) (s' : Nat → D) : Prop :=
  (∀ e ∈ o.after, Region.binds .any e = true → ∀ d, (ops[e.on]?).bind (·.dst) = some d → s' d = val e.on) ∧ (∀ t, (∀ j : Nat, (ops[j]?).bind (·.dst) ≠ some t) → s' t = s t)
def StepIs (P : Program) (G : Nat → D) (ops : Array Oper) (H : List O) (o : Oper) (v : D) (s' : Nat → D) : Prop :=
  (guardIs ops s' o true ∧ OpA P G o s' H fun d H' => d = v ∧ H' = H) ∨ (guardIs ops s' o false ∧ v = .lit undef)
def Midway (ops : Array Oper) (val : Nat → D) (s : Nat → D) (listed : Array Bool) (s' : Nat → D) : Prop :=
  (∀ (j : Nat) d, listed.getD j false = true → (ops[j]?).bind (·.dst) = some d → s' d = val j) ∧ (∀ t, (∀ j : Nat, listed.getD j false = true → (ops[j]?).bind (·.dst) ≠ some t) → s' t = s t)
theorem ready_nil {ops : Array Oper} {listed : Array Bool} (hl : listed.size = ops.size) (hacyc : ∀ (i : Nat) (o : Oper), ops[i]? = some o → ∀ e ∈ o.after, Region.binds .any e = true → e.on < i) (h : Region.ready .any ops listed = []) : ∀ i, i < ops.size → listed.getD i false = true := by
  intro i
  induction i using Nat.strongRecOn with
  | _ i ih =>
    intro hi
    have : i ∉ Region.ready .any ops listed := by rw [h]; simp
    simp only [Region.ready, List.mem_filter, List.mem_range, not_and, Bool.and_eq_true, Bool.not_eq_true', Array.getElem?_eq_getElem hi, Option.map_some, Option.getD_some] at this
    have hil : i < listed.size := by omega
    rcases hb : listed.getD i true with _ | _
    · exfalso
      apply this hi hb
      rw [Array.all_eq_true']
      intro e he
      by_cases hbind : Region.binds .any e = true
      · have hlt := hacyc i _ (Array.getElem?_eq_getElem hi) e he hbind
        simp [ih e.on hlt (by omega)]
      · simp [hbind]
    · simpa [Array.getD, hil] using hb
theorem outs_spec {ops : Array Oper} {val : Nat → D} {s : Nat → D} (hdist : ∀ (i j : Nat) (d : Tmp), (ops[i]?).bind (·.dst) = some d → (ops[j]?).bind (·.dst) = some d → i = j) : ∀ (l : List Nat),
    (∀ (j : Nat) d, j ∈ l → (ops[j]?).bind (·.dst) = some d → outs ops val s l d = val j) ∧ (∀ t, (∀ j : Nat, j ∈ l → (ops[j]?).bind (·.dst) ≠ some t) → outs ops val s l t = s t) := by
  suffices key : ∀ (l : List Nat) (s : Nat → D), (∀ (j : Nat) d, j ∈ l → (ops[j]?).bind (·.dst) = some d → outs ops val s l d = val j) ∧ (∀ t, (∀ j : Nat, j ∈ l → (ops[j]?).bind (·.dst) ≠ some t) → outs ops val s l t = s t) from fun l => key l s
  intro l
  induction l with
  | nil => intro s; exact ⟨fun j d hj => by simp at hj, fun t _ => rfl⟩
  | cons i l ih =>
    intro s
    have e : outs ops val s (i :: l) = outs ops val (match (ops[i]?).bind (·.dst) with | some d => upd s d (val i) | none => s) l := rfl
    obtain ⟨h1, h2⟩ := ih (match (ops[i]?).bind (·.dst) with | some d => upd s d (val i) | none => s)
    rw [e]
    refine ⟨fun j d hj hd => ?_, fun t ht => ?_⟩
    · by_cases hjl : j ∈ l
      · exact h1 j d hjl hd
      · have hji : j = i := by rcases List.mem_cons.1 hj with q | q; exact q; exact absurd q hjl
        subst hji
        rw [h2 d fun k hk hkd => hjl (hdist k j d hkd hd ▸ hk)]
        simp [hd, upd]
    · rw [h2 t fun j hj => ht j (List.mem_cons_of_mem _ hj)]
      have := ht i List.mem_cons_self
      cases hd : (ops[i]?).bind (·.dst) with
      | none => rfl
      | some d =>
        simp only [upd]
        rw [if_neg]
        intro q
        exact this (by rw [hd, q])
theorem CodeA.draw {id : Nat} {ops : Array Oper} {s : Nat → D} {H : List O} {Q : Exit → St → Prop} (hm : P.follows .mixedOrders = true) (val : Nat → D)
    (hdn : ∀ (i : Nat) (o : Oper) (d : Tmp), ops[i]? = some o → o.dst = some d → d < n) (hdist : ∀ (i j : Nat) (d : Tmp), (ops[i]?).bind (·.dst) = some d → (ops[j]?).bind (·.dst) = some d → i = j)
    (hacyc : ∀ (i : Nat) (o : Oper), ops[i]? = some o → ∀ e ∈ o.after, Region.binds .any e = true → e.on < i)
    (hst : ∀ (i : Nat) (o : Oper), ops[i]? = some o → ∀ s', Agree ops val s o s' → StepIs P G ops H o (val i) s') (hQ : Q .normal ⟨outs ops val s (List.range ops.size), H⟩) : CodeA P G n (.region id ops true) ⟨s, H⟩ Q := by
  intro F c a w hr
  refine wp_region_any hm ?_
  suffices key : ∀ (fuel : Nat) (listed : Array Bool) (s' : Nat → D) (c' : Conc) (a' : Act) (w' : World), listed.size = ops.size → (ops.size - listed.toList.countP (· = true)) ≤ fuel → Midway ops val s listed s' →
      (∀ i, listed.getD i false = true → i < ops.size) → Rel G F n c' ⟨s', H⟩ a' w' → Ext c H c' H →
      wpAny P .any ops (fun x a' w' => ∃ σ' c', Rel G F n c' σ' a' w' ∧ Ext c H c' σ'.H ∧ Q x σ') fuel listed a' w' by
    refine key ops.size (Array.replicate ops.size false) s c a w.drew (by simp) (by omega) ⟨fun j d hj => ?_, fun t _ => rfl⟩ (fun i hi => ?_) hr.drew (Ext.refl _ _)
    · simp [Array.getD_eq_getD_getElem?, Array.getElem?_replicate] at hj
      split at hj <;> simp at hj
    · simp [Array.getD_eq_getD_getElem?, Array.getElem?_replicate] at hi
      split at hi <;> simp at hi
  have fin : ∀ (listed : Array Bool) (s' : Nat → D) (c' : Conc) (a' : Act) (w' : World), listed.size = ops.size → Midway ops val s listed s' → (∀ i, listed.getD i false = true → i < ops.size) → Rel G F n c' ⟨s', H⟩ a' w' → Ext c H c' H →
      Region.ready .any ops listed = [] → ∃ σ' c', Rel G F n c' σ' a' w' ∧ Ext c H c' σ'.H ∧ Q .normal σ' := by
    intro listed s' c' a' w' hl hmid hlt hrel hE hready
    have hall := ready_nil hl hacyc hready
    have hs' : s' = outs ops val s (List.range ops.size) := by
      obtain ⟨o1, o2⟩ := outs_spec (val := val) (s := s) hdist (List.range ops.size)
      funext t
      by_cases ht : ∃ j : Nat, (ops[j]?).bind (·.dst) = some t
      · obtain ⟨j, hj⟩ := ht
        have hjl : j < ops.size := by
          rcases Nat.lt_or_ge j ops.size with q | q
          · exact q
          · rw [Array.getElem?_eq_none q] at hj; simp at hj
        rw [hmid.1 j t (hall j hjl) hj, o1 j t (List.mem_range.2 hjl) hj]
      · rw [hmid.2 t fun j _ hj => ht ⟨j, hj⟩, o2 t fun j _ hj => ht ⟨j, hj⟩]
    rw [hs'] at hrel
    exact ⟨_, c', hrel, hE, hQ⟩
  intro fuel
  induction fuel with
  | zero =>
    intro listed s' c' a' w' hl hf hmid hlt hrel hE
    have hcount : listed.toList.countP (· = true) = listed.toList.length := by
      have := List.countP_le_length (p := fun b : Bool => decide (b = true)) (l := listed.toList)
      have : listed.toList.length = ops.size := by simpa using hl
      omega
    have hready : Region.ready .any ops listed = [] := by
      rw [List.countP_eq_length] at hcount
      unfold Region.ready
      rw [List.filter_eq_nil_iff]
      intro i hi
      have hil : i < listed.size := by rw [hl]; exact List.mem_range.1 hi
      have := hcount listed[i] (by simp)
      simp only [decide_eq_true_eq] at this
      simp [Array.getD, hil, this]
    exact ⟨hready, fin listed s' c' a' w' hl hmid hlt hrel hE hready⟩
  | succ fuel ih =>
    intro listed s' c' a' w' hl hf hmid hlt hrel hE
    refine ⟨fin listed s' c' a' w' hl hmid hlt hrel hE, fun i hi => ?_⟩
    simp only [Region.ready, List.mem_filter, List.mem_range, Bool.and_eq_true, Bool.not_eq_true'] at hi
    obtain ⟨hi1, hi2, hi3⟩ := hi
    have ho := Array.getElem?_eq_getElem hi1
    rw [ho] at hi3
    simp only [Option.map_some, Option.getD_some] at hi3
    have hil : i < listed.size := by omega
    have hfalse : listed.getD i false = false := by simp [Array.getD, hil] at hi2 ⊢; exact hi2

    have hag : Agree ops val s ops[i] s' := by
      refine ⟨fun e he hb d hd => ?_, fun t ht => hmid.2 t fun j _ => ht j⟩
      rw [Array.all_eq_true'] at hi3
      have := hi3 e he
      simp only [hb, Bool.not_true, Bool.false_or] at this
      exact hmid.1 e.on d this hd
    have hlist : ∀ j, (listed.setIfInBounds i true).getD j false = true ↔ j = i ∨ listed.getD j false = true := by
      intro j
      simp only [Array.getD_eq_getD_getElem?, Array.getElem?_setIfInBounds]
      by_cases hj : i = j
      · subst hj; simp [hil]
      · simp [hj, Ne.symm hj]
    have next : ∀ (s2 : Nat → D), (∀ d, ops[i].dst = some d → s2 d = val i) → (∀ t, ops[i].dst ≠ some t → s2 t = s' t) → ∀ c2 a2 w2, Rel G F n c2 ⟨s2, H⟩ a2 w2 → Ext c H c2 H →
        wpAny P .any ops (fun x a' w' => ∃ σ' c', Rel G F n c' σ' a' w' ∧ Ext c H c' σ'.H ∧ Q x σ') fuel (listed.setIfInBounds i true) a2 w2 := by
      intro s2 h1 h2 c2 a2 w2 hrel2 hE2
      refine ih (listed.setIfInBounds i true) s2 c2 a2 w2 (by simp [hl]) ?_ ⟨fun j d hj hd => ?_, fun t ht => ?_⟩ (fun j hj => ?_) hrel2 hE2
      · have hcnt : (listed.setIfInBounds i true).toList.countP (· = true) = listed.toList.countP (· = true) + 1 := by
          have hset : (listed.setIfInBounds i true).toList = listed.toList.set i true := by simp
          rw [hset, List.countP_set (by simpa using hil)]
          have : listed.toList[i]'(by simpa using hil) = false := by simpa [Array.getD, hil] using hfalse
          simp [this]
        omega
      · rcases (hlist j).1 hj with rfl | q
        · rw [ho] at hd; exact h1 d hd
        · by_cases hid : ops[i].dst = some d
          · have : j = i := hdist j i d hd (by rw [ho]; exact hid)
            subst this; exact h1 d hid
          · rw [h2 d hid]; exact hmid.1 j d q hd
      · have := ht i ((hlist i).2 (.inl rfl))
        rw [ho] at this
        rw [h2 t this]
        exact hmid.2 t fun j hj => ht j ((hlist j).2 (.inr hj))
      · rcases (hlist j).1 hj with rfl | q
        · exact hi1
        · exact hlt j q
    have hn : ∀ (j : Nat) want k, ops[i].guard = some (j, want) → (ops[j]?).bind (·.dst) = some k → k < n := by
      intro j want k _ hk
      cases hj : ops[j]? with
      | none => rw [hj] at hk; cases hk
      | some oj => rw [hj] at hk; exact hdn j oj k hj hk
    have hput : ∀ (v : D), (∀ d, ops[i].dst = some d → (St.put ⟨s', H⟩ ops[i].dst v H).s d = v) ∧ ∀ t, ops[i].dst ≠ some t → (St.put ⟨s', H⟩ ops[i].dst v H).s t = s' t := by
      intro v
      cases hd : ops[i].dst with
      | none => exact ⟨(fun d hd => nomatch hd), (fun t _ => rfl)⟩
      | some k =>
        refine ⟨fun d hd => by cases hd; simp [St.put, upd], fun t ht => ?_⟩
        simp only [St.put, upd]
        rw [if_neg]
        intro q; exact ht (by rw [q])
    have hputH : ∀ v, (St.put ⟨s', H⟩ ops[i].dst v H) = ⟨(St.put ⟨s', H⟩ ops[i].dst v H).s, H⟩ := by intro v; cases ops[i].dst <;> rfl
    simp only [wpOp, ho]
    rcases hst i _ ho s' hag with ⟨hg, hop⟩ | ⟨hg, hv⟩
    · rw [if_pos (guard_wanted hrel hg hn)]
      refine .inl ?_
      unfold Oper.wp
      obtain ⟨p1, p2⟩ := hput (val i)
      rcases hop F n c' a' w' hrel with ⟨v, w2, c2, H2, d, hx, k1, k2, k3, rfl, rfl⟩ | ⟨w2, c2, H2, hx, k1, k2, hv, rfl⟩ | ⟨f, vs, ds, w2, hx, k1, k2, k3, k4⟩
      · rw [hx]
        have := hrel.put k1 k2 ops[i].dst (fun d hd => hdn i _ d ho hd) k3
        rw [hputH] at this
        exact next _ p1 p2 c2 _ w2 this (hE.trans k2)
      · rw [hx]
        have := hrel.put k1 k2 ops[i].dst (fun d hd => hdn i _ d ho hd) (.lit undef)
        rw [hv] at this
        rw [hputH] at this
        exact next _ p1 p2 c2 _ w2 this (hE.trans k2)
      · rw [hx]
        refine (k4.2 F c' w2 vs k1 hrel.glob k2 k3).mono ?_
        rintro e w3 ⟨v, d, c2, H2, rfl, j1, j2, j3, rfl, rfl⟩
        have := hrel.put j1 j2 ops[i].dst (fun d hd => hdn i _ d ho hd) j3
        rw [hputH] at this
        exact next _ p1 p2 c2 _ w3 this (hE.trans j2)
    · rw [if_neg (by rw [guard_wanted hrel hg hn]; simp)]
      obtain ⟨p1, p2⟩ := hput (val i)
      have := hrel.put hrel.hp (Ext.refl _ _) ops[i].dst (fun d hd => hdn i _ d ho hd) (.lit undef)
      rw [← hv, hputH] at this
      exact next _ p1 p2 c' _ w' this hE
end
end Go.DL
set_option linter.unusedVariables false
set_option linter.unusedSimpArgs false
namespace Go.DL
open Go
def isAggD : TypeDesc → Bool
  | .struct _ => true
  | .array _ _ => true
  | _ => false
def trBin (P : Program) (op : BinOp) (t : TypeId) (x y : Operand) : Option DO :=
  match Operand.toX x, Operand.toX y, P.underlying t with
  | some x', some y', some .bool => some (.eqb op x' y')
  | some x', some y', some (.interface _) => match x, y with
    | .const _, _ => some (.eqn op x' y')
    | _, .const _ => some (.eqn op x' y')
    | _, _ => none
  | some x', some y', some _ => some (.bin op x' y')
  | _, _, _ => none
def trLoad (P : Program) (t : TypeId) (x : Operand) : Option DO :=
  match Operand.toX x, P.info? t, P.underlying t with
  | some x', some i, some d => if isAggD d || i.size == 1 then some (.load i.size (isAggD d) x') else none
  | _, _, _ => none
def trField (P : Program) (t : TypeId) (x : Operand) (j : Nat) : Option DO :=
  match Operand.toX x, P.underlying t with
  | some x', some (.struct fs) => match fs[j]? with
    | some f => match P.info? f.type, P.underlying f.type with
      | some i, some d => if isAggD d || i.size == 1 then some (.fld f.offset i.size (isAggD d) x') else none
      | _, _ => none
    | none => none
  | _, _ => none
def trFieldAddr (P : Program) (t : TypeId) (x : Operand) (j : Nat) : Option DO :=
  match Operand.toX x, P.underlying t with
  | some x', some (.struct fs) => match fs[j]? with
    | some f => match P.info? f.type with
      | some i => if i.size == 0 then none else some (.fad f.offset x')
      | none => none
    | none => none
  | _, _ => none
def trIndexAddr (P : Program) (t : TypeId) (x y : Operand) : Option DO :=
  match Operand.toX x, Operand.toX y, P.underlying t with
  | some x', some y', some (.slice e) => (P.info? e).map fun i => .iad i.size x' y'
  | some x', some y', some (.array m e) => (P.info? e).map fun i => .iaa i.size m x' y'
  | _, _, _ => none
def trOpt : Option Operand → Option (Option X)
  | none => some none
  | some x => (Operand.toX x).map some
def trSlice (P : Program) (t : TypeId) (x : Operand) (lo hi : Option Operand) : Option DO :=
  match Operand.toX x, trOpt lo, trOpt hi, P.underlying t with
  | some x', some lo', some hi', some .string => some (.slcS x' lo' hi')
  | some x', some lo', some hi', some (.slice e) => (P.info? e).map fun i => .slcL i.size x' lo' hi'
  | some x', some none, some none, some (.array n e) => match P.info? e with
    | some i => if i.size == 1 && lo.isNone && hi.isNone then some (.slcA n x') else none
    | none => none
  | _, _, _, _ => none
def trIndex (P : Program) (t : TypeId) (x y : Operand) : Option DO :=
  match Operand.toX x, Operand.toX y, P.underlying t with
  | some x', some y', some .string => some (.idxS x' y')
  | some x', some y', some (.array n e) => match P.info? e, P.underlying e with
    | some i, some d => if isAggD d || i.size == 1 then some (.idxA i.size n (isAggD d) x' y') else none
    | _, _ => none
  | _, _, _ => none
def trConvert (P : Program) (src dst : TypeId) (x : Operand) : Option DO :=
  match Operand.toX x, P.underlying src, P.underlying dst with
  | some x', some (.int _), some (.int k) => some (.conv k x')
  | some x', some (.slice e), some .string => match P.underlying e with
    | some (.int .u8) => some (.str x')
    | _ => none
  | _, _, _ => none
def trMput (P : Program) (t : TypeId) (x k y : Operand) : Option DO :=
  match Operand.toX x, Operand.toX k, Operand.toX y, P.underlying t with
  | some x', some k', some y', some (.map kt _) => (P.underlying kt).map fun kd => .mput kd x' k' y'
  | _, _, _, _ => none
def trMget (P : Program) (t : TypeId) (x k : Operand) (ok : Bool) : Option DO :=
  match Operand.toX x, Operand.toX k, P.underlying t with
  | some x', some k', some (.map kt et) => match P.underlying kt, P.info? et with
    | some kd, some i => match i.zero with
      | some z => some (.mget kd z ok x' k')
      | none => none
    | _, _ => none
  | _, _, _ => none
def trRange (P : Program) (t : TypeId) (x : Operand) : Option DO :=
  match Operand.toX x, P.underlying t with
  | some x', some (.map _ _) => some (.rng x')
  | _, _ => none
def trXs : List Operand → Option (List X)
  | [] => some []
  | x :: xs => match Operand.toX x, trXs xs with
    | some y, some ys => some (y :: ys)
    | _, _ => none
def trParts (places : List (Nat × Nat)) : List (Nat × Operand) → Option (List (Nat × Nat × X))
  | [] => some []
  | (i, x) :: rest => match places[i]?, Operand.toX x, trParts places rest with
    | some (off, size), some y, some ys => some ((off, size, y) :: ys)
    | _, _, _ => none
def trBuild (P : Program) (t : TypeId) (parts : Array (Nat × Operand)) : Option DO :=
  match P.info? t, P.underlying t with
  | some it, some (.struct fields) => match it.zero, fields.toList.mapM (fun f => (P.info? f.type).map fun i => (f.offset, i.size)) with
    | some z, some places => match trParts places parts.toList with
      | some ps => if z.cells.toList.all (·.oneCell') then some (.bld (z.cells.toList.map .lit) ps) else none
      | none => none
    | _, _ => none
  | _, _ => none
def trBuildSlice (P : Program) (row : Bool) (t : TypeId) (len : Nat) (parts : Array (Nat × Operand)) : Option DO :=
  match P.underlying t, trXs (parts.toList.map (·.2)) with
  | some (.slice e), some xs => match P.info? e with
    | some i => match i.zero with
      | some _ => if parts.size == len && parts.toList.map (·.1) == List.range parts.size && decide (len * i.size ≤ 2 ^ 24) && decide (0 < i.size) then some (.bsl row e i.size xs) else none
      | none => none
    | none => none
  | _, _ => none
def trAlloc (P : Program) (e : TypeId) : Option DO :=
  match P.info? e with
  | some i => match i.zero with
    | some z => if z.cells.toList.all (·.oneCell') then some (.alloc e (z.cells.toList.map .lit)) else none
    | none => none
  | none => none
def u8Zero : Option Value → Bool
  | some (.int .u8 n) => n == 0
  | _ => false
theorem u8Zero_ok {o : Option Value} (h : u8Zero o = true) : o = some (.int .u8 0) := by
  unfold u8Zero at h
  split at h
  · simp at h; subst h; rfl
  · cases h
def trCall (P : Program) (c : Call) : Option DO :=
  match c.callee with
  | .value f => match Operand.toX f, trXs c.args.toList with
    | some f', some xs => some (.call f' xs)
    | _, _ => none
  | .builtin .len => match c.args.toList, c.argTypes.toList with
    | [x], [t] => match Operand.toX x, P.underlying t with
      | some x', some .string => some (.lenS x')
      | some x', some (.slice _) => some (.lenL x')
      | some x', some (.map _ _) => some (.lenM x')
      | _, _ => none
    | _, _ => none
  | .builtin .append => match c.args.toList, c.argTypes.toList with
    | [x, y], [t, t'] => if t == t' then match Operand.toX x, Operand.toX y, P.underlying t with
      | some x', some y', some (.slice e) => match P.info? e with
        | some i => match i.zero with
          | some z => if z.cells.size == i.size && decide (0 < i.size) && decide (0 < i.bytes) then some (.app e i.size i.bytes x' y') else none
          | none => none
        | none => none
      | _, _, _ => none else match Operand.toX x, Operand.toX y, P.underlying t, P.underlying t' with
      | some x', some y', some (.slice e), some .string => match P.info? e with
        | some i => if u8Zero i.zero && i.size == 1 && i.bytes == 1 then some (.appS e x' y') else none
        | none => none
      | _, _, _, _ => none
    | _, _ => none
  | _ => none
def trOp (P : Program) (row : Bool) (o : Oper) : Option DO :=
  match o.op with
  | .move x => (Operand.toX x).map .mv
  | .assign x => (Operand.toX x).map .mv
  | .pick c a b => match Operand.toX c, Operand.toX a, Operand.toX b with
    | some c', some a', some b' => some (.pick c' a' b')
    | _, _, _ => none
  | .alloc e => trAlloc P e
  | .box e x => (Operand.toX x).map (.box e)
  | .build t parts => trBuild P t parts
  | .buildSlice t len parts => trBuildSlice P row t len parts
  | .load t x => trLoad P t x
  | .store t x y => match Operand.toX x, Operand.toX y, P.info? t with
    | some x', some y', some i => some (.store i.size x' y')
    | _, _, _ => none
  | .nilCheck x => (Operand.toX x).map .nilck
  | .binOp op t x y _ => trBin P op t x y
  | .unOp op _ x => (Operand.toX x).map (.un op)
  | .convert src dst x => trConvert P src dst x
  | .makeFunc (.func f) first caps => if first.isEmpty then (trXs caps.toList).map (.mkfn f) else none
  | .makeMap _ none => some .mkmap
  | .slice t x lo hi none => trSlice P t x lo hi
  | .fieldAddr t x j => trFieldAddr P t x j
  | .field t x j => trField P t x j
  | .indexAddr t x y => trIndexAddr P t x y
  | .index t x y => trIndex P t x y
  | .extract x i => (Operand.toX x).map fun x' => .ext x' i
  | .call c => trCall P c
  | .mapUpdate t x k y => trMput P t x k y
  | .lookup t x k ok => trMget P t x k ok
  | .range t x => trRange P t x
  | .next x false => (Operand.toX x).map .nxt
  | .entry x => (Operand.toX x).map .ent
  | _ => none
theorem trXs_ok : ∀ {xs : List Operand} {ys : List X}, trXs xs = some ys → xs.map Operand.toX = ys.map some
  | [], ys, h => by simp only [trXs, Option.some.injEq] at h; subst h; rfl
  | x :: xs, ys, h => by
    simp only [trXs] at h
    split at h
    · rename_i y ys' h1 h2
      simp only [Option.some.injEq] at h; subst h
      simp [h1, trXs_ok h2]
    · cases h
theorem trOpt_ok {x : Option Operand} {y : Option X} (h : trOpt x = some y) : x.map Operand.toX = y.map some := by
  cases x with
  | none => simp only [trOpt, Option.some.injEq] at h; subst h; rfl
  | some x =>
    simp only [trOpt, Option.map_eq_some_iff] at h
    obtain ⟨z, h1, rfl⟩ := h
    simp [h1]
theorem trParts_ok {places : List (Nat × Nat)} : ∀ {parts : List (Nat × Operand)} {ps : List (Nat × Nat × X)}, trParts places parts = some ps →
    parts.length = ps.length ∧ ∀ k (h : k < parts.length) (h' : k < ps.length), places[(parts[k]'h).1]? = some ((ps[k]'h').1, (ps[k]'h').2.1) ∧ Operand.toX (parts[k]'h).2 = some (ps[k]'h').2.2
  | [], ps, h => by simp only [trParts, Option.some.injEq] at h; subst h; exact ⟨rfl, fun k hk => by simp at hk⟩
  | (i, x) :: parts, ps, h => by
    simp only [trParts] at h
    split at h
    · rename_i off size y ys h1 h2 h3
      simp only [Option.some.injEq] at h; subst h
      obtain ⟨k1, k2⟩ := trParts_ok h3
      refine ⟨by simp [k1], fun k hk hk' => ?_⟩
      cases k with
      | zero => exact ⟨h1, h2⟩
      | succ k => exact k2 k (by simpa using hk) (by simpa using hk')
    · cases h
section
variable {P : Program} {G : Nat → D} {o : Oper} {s : Nat → D} {H : List O} {K : D → List O → Prop} {d : DO}
theorem agg_cond {dd : TypeDesc} {i : TypeInfo} (h : (isAggD dd || i.size == 1) = true) : isAggD dd = false → i.size = 1 := by
  intro q; rw [q] at h; simpa using h
theorem isAgg_spec (dd : TypeDesc) : isAggD dd = (match dd with | .struct _ => true | .array _ _ => true | _ => false) := by cases dd <;> rfl
theorem trOp_sound {row : Bool} (h : trOp P row o = some d) (hv : vcOp (CallA P G) G d s H K) : OpA P G o s H K := by
  unfold trOp at h
  split at h
  · rename_i x ho
    obtain ⟨y, hy, rfl⟩ := Option.map_eq_some_iff.1 h
    exact sound_mv (.inl ho) hy hv
  · rename_i x ho
    obtain ⟨y, hy, rfl⟩ := Option.map_eq_some_iff.1 h
    exact sound_mv (.inr ho) hy hv
  · rename_i c a b ho
    split at h
    · rename_i c' a' b' h1 h2 h3
      simp only [Option.some.injEq] at h; subst h
      exact sound_pick ho h1 h2 h3 _ hv
    · cases h
  · rename_i e ho
    unfold trAlloc at h
    split at h
    · rename_i i hi
      split at h
      · rename_i z hz
        split at h
        · rename_i hall
          simp only [Option.some.injEq] at h; subst h
          exact sound_alloc ho hi hz hall _ hv
        · cases h
      · cases h
    · cases h
  · rename_i e x ho
    obtain ⟨y, hy, rfl⟩ := Option.map_eq_some_iff.1 h
    exact sound_box ho hy _ hv
  · rename_i t parts ho
    unfold trBuild at h
    split at h
    · rename_i it fields hit hu
      split at h
      · rename_i z places hz hp
        split at h
        · rename_i ps hps
          split at h
          · rename_i hall
            simp only [Option.some.injEq] at h; subst h
            obtain ⟨k1, k2⟩ := trParts_ok hps
            exact sound_bld ho hit hz hu hp (by simpa using k1) (fun k hk hk' => by
              have := k2 k (by simpa using hk) hk'
              simpa using this) hall _ hv
          · cases h
        · cases h
      · cases h
    · cases h
  · rename_i t len parts ho
    unfold trBuildSlice at h
    split at h
    · rename_i e xs hu hxs
      split at h
      · rename_i i hi
        split at h
        · rename_i z hz
          split at h
          · rename_i hc
            simp only [Option.some.injEq] at h; subst h
            simp only [Bool.and_eq_true, beq_iff_eq, decide_eq_true_eq] at hc
            obtain ⟨⟨⟨c1, c2⟩, c3⟩, c4⟩ := hc
            refine sound_bsl ho ?_ c2 c1 hu hi hz c3 c4 _ hv
            have := trXs_ok hxs
            rw [← this, List.map_map]; rfl
          · cases h
        · cases h
      · cases h
    · cases h
  · rename_i t x ho
    unfold trLoad at h
    split at h
    · rename_i x' i dd h1 h2 h3
      split at h
      · rename_i hc
        simp only [Option.some.injEq] at h; subst h
        exact sound_load ho h1 h2 ⟨dd, h3, isAgg_spec dd⟩ (agg_cond hc) _ hv
      · cases h
    · cases h
  · rename_i t x y ho
    split at h
    · rename_i x' y' i h1 h2 h3
      simp only [Option.some.injEq] at h; subst h
      exact sound_store ho h1 h2 h3 _ hv
    · cases h
  · rename_i x ho
    obtain ⟨y, hy, rfl⟩ := Option.map_eq_some_iff.1 h
    exact sound_nilck ho hy _ hv
  · rename_i op t x y u ho
    unfold trBin at h
    split at h
    · rename_i x' y' h1 h2 h3
      simp only [Option.some.injEq] at h; subst h
      exact sound_eqb ho h1 h2 h3 _ hv
    · rename_i x' y' ms h1 h2 h3
      split at h
      · simp only [Option.some.injEq] at h; subst h
        exact sound_eqn ho h1 h2 h3 (.inl ⟨_, rfl⟩) _ hv
      · simp only [Option.some.injEq] at h; subst h
        exact sound_eqn ho h1 h2 h3 (.inr ⟨_, rfl⟩) _ hv
      · cases h
    · rename_i x' y' dd _ _ h1 h2 h3
      simp only [Option.some.injEq] at h; subst h
      exact sound_bin ho h1 h2 _ hv
    · cases h
  · rename_i op t x ho
    obtain ⟨y, hy, rfl⟩ := Option.map_eq_some_iff.1 h
    exact sound_un ho hy _ hv
  · rename_i src dst x ho
    unfold trConvert at h
    split at h
    · rename_i x' k0 k h1 h2 h3
      simp only [Option.some.injEq] at h; subst h
      exact sound_conv ho h1 h2 h3 _ hv
    · rename_i x' e h1 h2 h3
      split at h
      · rename_i h4
        simp only [Option.some.injEq] at h; subst h
        exact sound_str ho h1 h2 h4 h3 _ hv
      · cases h
    · cases h
  · rename_i f first caps ho
    split at h
    · rename_i hc
      obtain ⟨xs, hxs, rfl⟩ := Option.map_eq_some_iff.1 h
      have hf : first = #[] := by simpa using hc
      subst hf
      exact sound_mkfn ho (trXs_ok hxs) _ hv
    · cases h
  · rename_i t ho
    simp only [Option.some.injEq] at h; subst h
    exact sound_mkmap ho _ hv
  · rename_i t x lo hi ho
    unfold trSlice at h
    split at h
    · rename_i x' lo' hi' h1 h2 h3 h4
      simp only [Option.some.injEq] at h; subst h
      exact sound_slcS ho h1 (trOpt_ok h2) (trOpt_ok h3) h4 _ hv
    · rename_i x' lo' hi' e h1 h2 h3 h4
      obtain ⟨i, hi, rfl⟩ := Option.map_eq_some_iff.1 h
      exact sound_slcL ho h1 (trOpt_ok h2) (trOpt_ok h3) h4 hi _ hv
    · rename_i x' n e h1 h2 h3 h4
      split at h
      · rename_i i hi0
        split at h
        · rename_i hc
          simp only [Option.some.injEq] at h; subst h
          simp only [Bool.and_eq_true, beq_iff_eq, Option.isNone_iff_eq_none] at hc
          obtain ⟨⟨c1, rfl⟩, rfl⟩ := hc
          exact sound_slcA ho h1 h4 hi0 c1 _ hv
        · cases h
      · cases h
    · cases h
  · rename_i t x j ho
    unfold trFieldAddr at h
    split at h
    · rename_i x' fs h1 h2
      split at h
      · rename_i f hf
        split at h
        · rename_i i hi
          split at h
          · cases h
          · rename_i hc
            simp only [Option.some.injEq] at h; subst h
            exact sound_fad ho h1 h2 hf hi (by simpa using hc) _ hv
        · cases h
      · cases h
    · cases h
  · rename_i t x j ho
    unfold trField at h
    split at h
    · rename_i x' fs h1 h2
      split at h
      · rename_i f hf
        split at h
        · rename_i i dd hi hd
          split at h
          · rename_i hc
            simp only [Option.some.injEq] at h; subst h
            exact sound_fld ho h1 h2 hf hi ⟨dd, hd, isAgg_spec dd⟩ (agg_cond hc) _ hv
          · cases h
        · cases h
      · cases h
    · cases h
  · rename_i t x y ho
    unfold trIndexAddr at h
    split at h
    · rename_i x' y' e h1 h2 h3
      obtain ⟨i, hi, rfl⟩ := Option.map_eq_some_iff.1 h
      exact sound_iad ho h1 h2 h3 hi _ hv
    · rename_i x' y' m e h1 h2 h3
      obtain ⟨i, hi, rfl⟩ := Option.map_eq_some_iff.1 h
      exact sound_iaa ho h1 h2 h3 hi _ hv
    · cases h
  · rename_i t x y ho
    unfold trIndex at h
    split at h
    · rename_i x' y' h1 h2 h3
      simp only [Option.some.injEq] at h; subst h
      exact sound_idxS ho h1 h2 h3 _ hv
    · rename_i x' y' n e h1 h2 h3
      split at h
      · rename_i i dd hi hd
        split at h
        · rename_i hc
          simp only [Option.some.injEq] at h; subst h
          exact sound_idxA ho h1 h2 h3 hi ⟨dd, hd, isAgg_spec dd⟩ (agg_cond hc) _ hv
        · cases h
      · cases h
    · cases h
  · rename_i x i ho
    obtain ⟨y, hy, rfl⟩ := Option.map_eq_some_iff.1 h
    exact sound_ext ho hy _ hv
  · rename_i c ho
    obtain ⟨callee, args, ats⟩ := c
    unfold trCall at h
    simp only at h
    split at h
    · rename_i f
      split at h
      · rename_i f' xs h1 h2
        simp only [Option.some.injEq] at h; subst h
        exact sound_call ho h1 (trXs_ok h2) hv
      · cases h
    · split at h
      · rename_i x t ha hat
        have e1 : args = #[x] := by cases args; simp_all
        have e2 : ats = #[t] := by cases ats; simp_all
        subst e1 e2
        split at h
        · rename_i x' h1 h2
          simp only [Option.some.injEq] at h; subst h
          exact sound_lenS ho h1 h2 _ hv
        · rename_i x' e h1 h2
          simp only [Option.some.injEq] at h; subst h
          exact sound_lenL ho h1 h2 _ hv
        · rename_i x' k e h1 h2
          simp only [Option.some.injEq] at h; subst h
          exact sound_lenM ho h1 h2 _ hv
        · cases h
      · cases h
    · split at h
      · rename_i x y t t' ha hat
        have e1 : args = #[x, y] := by cases args; simp_all
        have e2 : ats = #[t, t'] := by cases ats; simp_all
        subst e1 e2
        split at h
        · rename_i htt
          have htt' : t = t' := by simpa using htt
          subst htt'
          split at h
          · rename_i x' y' e h1 h2 h3
            split at h
            · rename_i i hi
              split at h
              · rename_i z hz
                split at h
                · rename_i hc
                  simp only [Option.some.injEq] at h; subst h
                  simp only [Bool.and_eq_true, beq_iff_eq, decide_eq_true_eq] at hc
                  exact sound_app ho h1 h2 h3 hi hz hc.1.1 hc.1.2 hc.2 _ hv
                · cases h
              · cases h
            · cases h
          · cases h
        · split at h
          · rename_i x' y' e h1 h2 h3 h4
            split at h
            · rename_i i hi
              split at h
              · rename_i hc
                simp only [Option.some.injEq] at h; subst h
                simp only [Bool.and_eq_true, beq_iff_eq] at hc
                exact sound_appS ho h1 h2 h3 h4 hi (u8Zero_ok hc.1.1) hc.1.2 hc.2 _ hv
              · cases h
            · cases h
          · cases h
      · cases h
    · cases h
  · rename_i t x k y ho
    unfold trMput at h
    split at h
    · rename_i x' k' y' kt et h1 h2 h3 h4
      obtain ⟨kd, hkd, rfl⟩ := Option.map_eq_some_iff.1 h
      exact sound_mput ho h1 h2 h3 h4 hkd _ hv
    · cases h
  · rename_i t x k ok ho
    unfold trMget at h
    split at h
    · rename_i x' k' kt et h1 h2 h3
      split at h
      · rename_i kd i hkd hi
        split at h
        · rename_i z hz
          simp only [Option.some.injEq] at h; subst h
          exact sound_mget ho h1 h2 h3 hkd hi hz _ hv
        · cases h
      · cases h
    · cases h
  · rename_i t x ho
    unfold trRange at h
    split at h
    · rename_i x' kt et h1 h2
      simp only [Option.some.injEq] at h; subst h
      exact sound_rng ho h1 h2 _ hv
    · cases h
  · rename_i x ho
    obtain ⟨y, hy, rfl⟩ := Option.map_eq_some_iff.1 h
    exact sound_nxt ho hy _ hv
  · rename_i x ho
    obtain ⟨y, hy, rfl⟩ := Option.map_eq_some_iff.1 h
    exact sound_ent ho hy _ hv
  · cases h
end
end Go.DL
set_option linter.unusedVariables false
set_option linter.unusedSimpArgs false
namespace Go.DL
open Go
structure DOp where
  dst : Option Nat
  op : DO
  guard : Option (Nat × Bool)
inductive Gh where
  | own (t : Nat) (e : TypeId) (sz : Nat)
  | ownb (t j : Nat) (e : TypeId) (sz : Nat)
  | frz (t : Nat)
  | frzb (t j : Nat)
inductive DC where
  | own (gs : List Gh)
  | skip
  | reg (ops : List DOp)
  | drw (ops : List DOp)
  | frz (ts : List Nat) (a : DC)
  | seq (a b : DC)
  | cond (c : X) (a b : DC)
  | block (id : Nat) (a : DC)
  | loop (a : DC)
  | exit (id : Nat)
  | ret
  | scope (a : DC)
def put (s : Nat → D) (dst : Option Nat) (d : D) : Nat → D :=
  match dst with
  | some i => upd s i d
  | none => s
def vcOps (CA : FuncId → List D → List O → (D → List O → Prop) → Prop) (G : Nat → D) : List DOp → (Nat → D) → List O → ((Nat → D) → List O → Prop) → Prop
  | [], s, H, K => K s H
  | ⟨_, .frz t, _⟩ :: rest, s, H, K => vcOps CA G rest (upd s t (frzD (s t) H).1) (frzD (s t) H).2 K
  | ⟨dst, op, none⟩ :: rest, s, H, K => vcOp CA G op s H fun d H' => vcOps CA G rest (put s dst d) H' K
  | ⟨dst, op, some (g, b)⟩ :: rest, s, H, K => match s g with
    | .lit (.bool x) => (x = b → vcOp CA G op (upd s g (.lit (.bool b))) H fun d H' => vcOps CA G rest (put (upd s g (.lit (.bool b))) dst d) H' K) ∧
        (x = !b → vcOps CA G rest (put (upd s g (.lit (.bool !b))) dst (.lit undef)) H K)
    | .lit (.tuple ⟨[]⟩) => vcOps CA G rest (put s dst (.lit undef)) H K
    | _ => False
def vcDrw (CA : FuncId → List D → List O → (D → List O → Prop) → Prop) (G : Nat → D) (H : List O) : List DOp → (Nat → D) → ((Nat → D) → Prop) → Prop
  | [], s, K => K s
  | ⟨dst, op, none⟩ :: rest, s, K => ∃ v, vcOp CA G op s H (fun d H' => d = v ∧ H' = H) ∧ vcDrw CA G H rest (put s dst v) K
  | ⟨dst, op, some (g, b)⟩ :: rest, s, K => match s g with
    | .lit (.bool x) => (x = b → ∃ v, vcOp CA G op (upd s g (.lit (.bool b))) H (fun d H' => d = v ∧ H' = H) ∧ vcDrw CA G H rest (put (upd s g (.lit (.bool b))) dst v) K) ∧
        (x = !b → vcDrw CA G H rest (put (upd s g (.lit (.bool !b))) dst (.lit undef)) K)
    | .lit (.tuple ⟨[]⟩) => vcDrw CA G H rest (put s dst (.lit undef)) K
    | _ => False
def vcFrz : List Nat → (Nat → D) → List O → ((Nat → D) → List O → Prop) → Prop
  | [], s, H, K => K s H
  | t :: ts, s, H, K => vcFrz ts (upd s t (frzD (s t) H).1) (frzD (s t) H).2 K
def vcGh : List Gh → (Nat → D) → List O → ((Nat → D) → List O → Prop) → Prop
  | [], s, H, K => K s H
  | .own t e sz :: gs, s, H, K => s t = .lit (.slice none 0 0) ∧ 0 < sz ∧ vcGh gs (upd s t (.row H.length 0)) (H ++ [.row true 0 e sz []]) K
  | .ownb t j e sz :: gs, s, H, K => ∃ id e' ys, s t = .ptr id 0 ∧ H[id]? = some (.box e' ys) ∧ ys[j]? = some (.lit (.slice none 0 0)) ∧ 0 < sz ∧ vcGh gs s (H.set id (.box e' (ys.set j (.row H.length 0))) ++ [.row true 0 e sz []]) K

  | .frz t :: gs, s, H, K => vcGh gs (upd s t (frzD (s t) H).1) (frzD (s t) H).2 K
  | .frzb t j :: gs, s, H, K => ∃ id e' ys i v x e sz xs, s t = .ptr id 0 ∧ H[id]? = some (.box e' ys) ∧ ys[j]? = some (.row i v) ∧ H[i]? = some (.row x v e sz xs) ∧ vcGh gs s ((H.set i (.row false v e sz xs)).set id (.box e' (ys.set j (.sl xs)))) K
def vc (CA : FuncId → List D → List O → (D → List O → Prop) → Prop) (G : Nat → D) : DC → (Nat → D) → List O → (Exit → (Nat → D) → List O → Prop) → Prop
  | .own gs, s, H, Q => vcGh gs s H fun s' H' => Q .normal s' H'
  | .skip, s, H, Q => Q .normal s H
  | .reg ops, s, H, Q => vcOps CA G ops s H fun s' H' => Q .normal s' H'
  | .drw ops, s, H, Q => vcDrw CA G H ops s fun s' => Q .normal s' H
  | .frz ts a, s, H, Q => vcFrz ts s H fun s' H' => vc CA G a s' H' Q
  | .seq a b, s, H, Q => vc CA G a s H fun x s' H' => match x with
    | .normal => vc CA G b s' H' Q
    | x => Q x s' H'
  | .cond c a b, s, H, Q => match c.val G s with
    | .lit (.bool t) => (t = true → vc CA G a s H Q) ∧ (t = false → vc CA G b s H Q)
    | _ => False
  | .block id a, s, H, Q => vc CA G a s H fun x s' H' => match x with
    | .exit i => if i = id then Q .normal s' H' else Q (.exit i) s' H'
    | x => Q x s' H'
  | .loop a, s, H, Q => ∃ (I : (Nat → D) → List O → Prop) (μ : (Nat → D) → List O → Nat), I s H ∧ ∀ s' H', I s' H' → vc CA G a s' H' fun x s'' H'' => match x with
    | .normal => I s'' H'' ∧ μ s'' H'' < μ s' H'
    | x => Q x s'' H''
  | .exit id, s, H, Q => Q (.exit id) s H
  | .ret, s, H, Q => Q .ret s H
  | .scope a, s, H, Q => vc CA G a s H fun x s' H' => match x with
    | .goto _ => False
    | x => Q x s' H'
structure Hints where
  rows : List Nat := []
  keep : List Nat := []
  pre : List (Nat × List Nat) := []
  own : List (Nat × List Gh) := []
  preg : List (Nat × List Gh) := []
def Operand.slot : Operand → List Nat
  | .tmp t => [t]
  | _ => []
def frzOf (op : Op) : List Nat :=
  match op with
  | .call { callee := .value _, args, .. } => args.toList.flatMap Operand.slot
  | .call { callee := .builtin .append, args, .. } => (args.toList.drop 1).flatMap Operand.slot
  | .build _ parts => parts.toList.flatMap fun p => Operand.slot p.2
  | .buildSlice _ _ parts => parts.toList.flatMap fun p => Operand.slot p.2
  | .slice _ x .. => Operand.slot x
  | _ => []
def dstOf (ops : Array Oper) (j : Nat) : Option Nat := (ops[j]?).bind (·.dst)
def trGuard (ops : Array Oper) (n : Nat) : Option (Nat × Bool) → Option (Option (Nat × Bool))
  | none => some none
  | some (j, b) => match dstOf ops j with
    | some g => if g < n then some (some (g, b)) else none
    | none => none
def dstLt (n : Nat) : Option Nat → Bool
  | none => true
  | some k => decide (k < n)
def trAt (P : Program) (n : Nat) (h : Hints) (ops : Array Oper) (i : Nat) : Option DOp :=
  match ops[i]? with
  | some o => match trOp P (h.rows.any fun t => o.dst == some t) o, trGuard ops n o.guard with
    | some d, some g => if dstLt n o.dst then some ⟨o.dst, d, g⟩ else none
    | _, _ => none
  | none => none
def frzAt (h : Hints) (ops : Array Oper) (i : Nat) : List DOp :=
  match ops[i]? with
  | some o => ((frzOf o.op).filter fun t => !h.keep.contains t).map fun t => ⟨none, .frz t, none⟩
  | none => []
def trL (P : Program) (n : Nat) (h : Hints) (ops : Array Oper) : List Nat → Option (List DOp)
  | [] => some []
  | i :: l => match trAt P n h ops i, trL P n h ops l with
    | some d, some ds => some (frzAt h ops i ++ d :: ds)
    | _, _ => none
def trLd (P : Program) (n : Nat) (h : Hints) (ops : Array Oper) : List Nat → Option (List DOp)
  | [] => some []
  | i :: l => match trAt P n h ops i, trLd P n h ops l with
    | some d, some ds => some (d :: ds)
    | _, _ => none
def X.reads : X → List Nat
  | .s t => [t]
  | _ => []
def optReads : Option X → List Nat
  | some x => x.reads
  | none => []
def DO.reads : DO → List Nat
  | .mv x | .box _ x | .load _ _ x | .nilck x | .un _ x | .conv _ x | .str x | .fad _ x | .fld _ _ _ x | .ext x _ | .lenS x | .lenL x | .lenM x | .slcA _ x | .rng x | .nxt x | .ent x => x.reads
  | .pick c a b => c.reads ++ a.reads ++ b.reads
  | .alloc .. | .mkmap => []
  | .bld _ parts => parts.flatMap fun p => p.2.2.reads
  | .bsl _ _ _ parts => parts.flatMap X.reads
  | .store _ x y | .bin _ x y | .eqb _ x y | .eqn _ x y | .iad _ x y | .iaa _ _ x y | .idxS x y | .app _ _ _ x y | .appS _ x y | .idxA _ _ _ x y | .mget _ _ _ x y => x.reads ++ y.reads
  | .mput _ x k y => x.reads ++ k.reads ++ y.reads
  | .mkfn _ caps => caps.flatMap X.reads
  | .slcS x lo hi | .slcL _ x lo hi => x.reads ++ optReads lo ++ optReads hi
  | .call f args => f.reads ++ args.flatMap X.reads
  | .frz t => [t]
def drawOk (ops : Array Oper) (ds : List DOp) : Bool :=
  ((List.range ops.size).all fun i => (List.range ops.size).all fun j => i == j || (match dstOf ops i, dstOf ops j with | some a, some b => a != b | _, _ => true)) &&
  ((List.range ops.size).all fun i => match ops[i]?, ds[i]? with
    | some o, some d => o.after.all (fun e => !Region.binds .any e || decide (e.on < i)) &&
        (d.op.reads ++ (match d.guard with | some (g, _) => [g] | none => [])).all fun t =>
          (List.range ops.size).all (fun j => dstOf ops j != some t) || o.after.any fun e => Region.binds .any e && dstOf ops e.on == some t
    | _, _ => false)
def preOf (h : Hints) (id : Nat) : List Nat := (h.pre.filter fun p => p.1 == id).flatMap (·.2)
def ownOf (h : Hints) (id : Nat) : List Gh := (h.own.filter fun p => p.1 == id).flatMap (·.2)
def pregOf (h : Hints) (id : Nat) : List Gh := (h.preg.filter fun p => p.1 == id).flatMap (·.2)
def withPre (d : DC) : List Gh → DC
  | [] => d
  | gs => .seq (.own gs) d
def withOwn (d : DC) : List Gh → DC
  | [] => d
  | gs => .seq d (.own gs)
def trCode (P : Program) (n : Nat) (h : Hints) : Code → Option DC
  | .skip => some .skip
  | .label _ => some .skip
  | .region id ops false => (trL P n h ops (List.range ops.size)).map fun ds => withPre (withOwn (match preOf h id with | [] => .reg ds | ts => .frz ts (.reg ds)) (ownOf h id)) (pregOf h id)
  | .region id ops true => match trLd P n h ops (List.range ops.size) with
    | some ds => if drawOk ops ds then some (withPre (withOwn (match preOf h id with | [] => .drw ds | ts => .frz ts (.drw ds)) (ownOf h id)) (pregOf h id)) else none
    | none => none
  | .seq a b => match trCode P n h a, trCode P n h b with
    | some x, some y => some (.seq x y)
    | _, _ => none
  | .cond c a b => match Operand.toX c, trCode P n h a, trCode P n h b with
    | some z, some x, some y => some (.cond z x y)
    | _, _, _ => none
  | .block id a => (trCode P n h a).map (.block id)
  | .loop a => (trCode P n h a).map .loop
  | .exit id => some (.exit id)
  | .ret => some .ret
  | .scope a => (trCode P n h a).map .scope
  | _ => none
section
variable {P : Program} {G : Nat → D} {n : Nat}
theorem OpsA.frz {ops : Array Oper} {l : List Nat} {s : Nat → D} {H : List O} {K : St → Prop} (t : Nat) (h : OpsA P G n ops l ⟨upd s t (frzD (s t) H).1, (frzD (s t) H).2⟩ K) : OpsA P G n ops l ⟨s, H⟩ K := by
  intro F c a w hr Q hQ
  obtain ⟨c', k1, k2⟩ := hr.frz t
  exact h F c' a w k1 Q fun σ' c'' a' w' j1 j2 j3 => hQ σ' c'' a' w' j1 (k2.trans j2) j3
theorem trGuard_ok {ops : Array Oper} {g : Option (Nat × Bool)} {g' : Option (Nat × Bool)} (h : trGuard ops n g = some g') :
    (g = none ∧ g' = none) ∨ ∃ j b t, g = some (j, b) ∧ g' = some (t, b) ∧ dstOf ops j = some t ∧ t < n := by
  cases g with
  | none => simp only [trGuard, Option.some.injEq] at h; exact .inl ⟨rfl, h.symm⟩
  | some p =>
    obtain ⟨j, b⟩ := p
    simp only [trGuard] at h
    split at h
    · rename_i t ht
      split at h
      · rename_i hlt
        simp only [Option.some.injEq] at h
        exact .inr ⟨j, b, t, rfl, h.symm, ht, hlt⟩
      · cases h
    · cases h
theorem trAt_ok {h : Hints} {ops : Array Oper} {i : Nat} {d : DOp} (hd : trAt P n h ops i = some d) : ∃ o row, ops[i]? = some o ∧ trOp P row o = some d.op ∧ trGuard ops n o.guard = some d.guard ∧ d.dst = o.dst ∧ ∀ k, o.dst = some k → k < n := by
  unfold trAt at hd
  split at hd
  · rename_i o ho
    split at hd
    · rename_i dd g h1 h2
      split at hd
      · rename_i hlt
        simp only [Option.some.injEq] at hd; subst hd
        refine ⟨o, _, ho, h1, h2, rfl, fun k hk => ?_⟩
        rw [hk] at hlt
        simpa [dstLt] using hlt
      · cases hd
    · cases hd
  · cases hd
theorem upd_same (s : Nat → D) (g : Nat) (d : D) (h : s g = d) : upd s g d = s := by
  funext j
  simp only [upd]
  split
  · rename_i hj; rw [hj, h]
  · rfl
theorem OpA.mono {o : Oper} {s : Nat → D} {H : List O} {K K' : D → List O → Prop} (h : OpA P G o s H K) (hk : ∀ d H', K d H' → K' d H') : OpA P G o s H K' := by
  intro F n' c a w hr
  rcases h F n' c a w hr with ⟨v, w', c', H', d, e1, e2, e3, e4, e5⟩ | ⟨w', c', H', e1, e2, e3, e4⟩ | ⟨f, vs, ds', w', e1, e2, e3, e4, e5⟩
  · exact .inl ⟨v, w', c', H', d, e1, e2, e3, e4, hk _ _ e5⟩
  · exact .inr (.inl ⟨w', c', H', e1, e2, e3, hk _ _ e4⟩)
  · exact .inr (.inr ⟨f, vs, ds', w', e1, e2, e3, e4, e5.mono hk⟩)
theorem put_eq (s : Nat → D) (H H' : List O) (dst : Option Nat) (d : D) : St.put ⟨s, H⟩ dst d H' = ⟨DL.put s dst d, H'⟩ := by cases dst <;> rfl
theorem OpsA.vc1 {ops : Array Oper} {i : Nat} {l : List Nat} {o : Oper} {row : Bool} {d : DOp} {ds : List DOp} {s : Nat → D} {H : List O} {K : St → Prop} (ho : ops[i]? = some o) (hop : trOp P row o = some d.op) (hg : trGuard ops n o.guard = some d.guard) (hdst : d.dst = o.dst) (hn : ∀ k, o.dst = some k → k < n)
    (ih : ∀ s H, vcOps (CallA P G) G ds s H (fun s' H' => K ⟨s', H'⟩) → OpsA P G n ops l ⟨s, H⟩ K) (h : vcOps (CallA P G) G (d :: ds) s H fun s' H' => K ⟨s', H'⟩) : OpsA P G n ops (i :: l) ⟨s, H⟩ K := by
  obtain ⟨dst, op, guard⟩ := d
  simp only at hop hg hdst
  subst hdst
  have hnf : ∀ t, op ≠ .frz t := by
    intro t ht
    subst ht
    exact absurd (trOp_sound (G := fun _ => .junk) (s := fun _ => .junk) (H := []) (K := fun _ _ => True) hop) (by
      intro _
      revert hop
      unfold trOp
      repeat' split
      all_goals (try unfold trAlloc); (try unfold trBuild); (try unfold trBuildSlice); (try unfold trLoad); (try unfold trBin); (try unfold trSlice); (try unfold trFieldAddr); (try unfold trField); (try unfold trIndexAddr); (try unfold trCall); (try unfold trConvert); (try unfold trIndex); (try unfold trMput); (try unfold trMget); (try unfold trRange)
      all_goals (repeat' split)
      all_goals simp [Option.map_eq_some_iff])
  have hngd : ∀ j want k, o.guard = some (j, want) → (ops[j]?).bind (·.dst) = some k → k < n := by
    intro j want k hj hk
    rcases trGuard_ok hg with ⟨h1, _⟩ | ⟨j', b, t, h1, h2, h3, h4⟩
    · rw [h1] at hj; cases hj
    · rw [h1] at hj
      simp only [Option.some.injEq, Prod.mk.injEq] at hj
      obtain ⟨rfl, rfl⟩ := hj
      unfold dstOf at h3
      rw [h3] at hk; cases hk; exact h4
  rcases trGuard_ok hg with ⟨h1, rfl⟩ | ⟨j, b, t, h1, rfl, h3, h4⟩
  · have h' : vcOp (CallA P G) G op s H fun d H' => vcOps (CallA P G) G ds (DL.put s o.dst d) H' fun s' H' => K ⟨s', H'⟩ := by
      cases op <;> first | exact h | exact absurd rfl (hnf _)
    refine OpsA.cons ho hn (by unfold guardIs; rw [h1]) hngd ?_
    exact (trOp_sound hop h').mono fun d H' q => by rw [put_eq]; exact ih _ _ q
  · have h' : match s t with
        | .lit (.bool x) => (x = b → vcOp (CallA P G) G op (upd s t (.lit (.bool b))) H fun d H' => vcOps (CallA P G) G ds (DL.put (upd s t (.lit (.bool b))) o.dst d) H' fun s' H' => K ⟨s', H'⟩) ∧
            (x = !b → vcOps (CallA P G) G ds (DL.put (upd s t (.lit (.bool !b))) o.dst (.lit undef)) H fun s' H' => K ⟨s', H'⟩)
        | .lit (.tuple ⟨[]⟩) => vcOps (CallA P G) G ds (DL.put s o.dst (.lit undef)) H fun s' H' => K ⟨s', H'⟩
        | _ => False := by
      cases op <;> first | exact h | exact absurd rfl (hnf _)
    split at h'
    · rename_i x hx
      obtain ⟨g1, g2⟩ := h'
      by_cases hxb : x = b
      · subst hxb
        rw [upd_same s t _ hx] at g1
        refine OpsA.cons ho hn ?_ hngd ?_
        · unfold guardIs; rw [h1]
          exact ⟨t, h3, .inl ⟨x, hx, by simp⟩⟩
        · exact (trOp_sound hop (g1 rfl)).mono fun d H' q => by rw [put_eq]; exact ih _ _ q
      · have hxn : x = !b := by cases x <;> cases b <;> simp_all
        subst hxn
        rw [upd_same s t _ hx] at g2
        refine OpsA.skip ho hn ?_ hngd ?_
        · unfold guardIs; rw [h1]
          exact ⟨t, h3, .inl ⟨!b, hx, by cases b <;> rfl⟩⟩
        · rw [put_eq]; exact ih _ _ (g2 rfl)
    · rename_i hx
      refine OpsA.skip ho hn ?_ hngd ?_
      · unfold guardIs; rw [h1]
        exact ⟨t, h3, .inr ⟨hx, rfl⟩⟩
      · rw [put_eq]; exact ih _ _ h'
    · exact h'.elim
theorem trL_sound {h : Hints} {ops : Array Oper} {K : St → Prop} : ∀ (l : List Nat) (ds : List DOp), trL P n h ops l = some ds → ∀ s H, vcOps (CallA P G) G ds s H (fun s' H' => K ⟨s', H'⟩) → OpsA P G n ops l ⟨s, H⟩ K
  | [], ds, hd, s, H, hv => by
    simp only [trL, Option.some.injEq] at hd; subst hd
    exact OpsA.nil hv
  | i :: l, ds, hd, s, H, hv => by
    simp only [trL] at hd
    split at hd
    · rename_i d ds' h1 h2
      simp only [Option.some.injEq] at hd; subst hd
      obtain ⟨o, row, k1, k2, k3, k4, k5⟩ := trAt_ok h1
      have ih := trL_sound (K := K) l ds' h2
      have main : ∀ s H, vcOps (CallA P G) G (d :: ds') s H (fun s' H' => K ⟨s', H'⟩) → OpsA P G n ops (i :: l) ⟨s, H⟩ K := fun s H hv => OpsA.vc1 k1 k2 k3 k4 k5 ih hv
      have gh : ∀ (ts : List Nat) s H, vcOps (CallA P G) G ((ts.map fun t => (⟨none, .frz t, none⟩ : DOp)) ++ d :: ds') s H (fun s' H' => K ⟨s', H'⟩) → OpsA P G n ops (i :: l) ⟨s, H⟩ K := by
        intro ts
        induction ts with
        | nil => exact main
        | cons t ts iht => intro s H hv; exact OpsA.frz t (iht _ _ hv)
      unfold frzAt at hv
      rw [k1] at hv
      exact gh _ s H hv
    · cases hd
theorem val_congr {s s' : Nat → D} {x : X} (h : ∀ t ∈ x.reads, s t = s' t) : x.val G s = x.val G s' := by
  cases x with
  | s t => exact h t (by simp [X.reads])
  | c d => rfl
  | g m => rfl
theorem bound_congr {s s' : Nat → D} {x : Option X} {d : Nat} (h : ∀ t ∈ optReads x, s t = s' t) : boundOf s G d x = boundOf s' G d x := by
  cases x with
  | none => rfl
  | some x => simp only [boundOf, val_congr (G := G) (x := x) h]
theorem vals_congr {s s' : Nat → D} {xs : List X} (h : ∀ t ∈ xs.flatMap X.reads, s t = s' t) : xs.map (X.val G s) = xs.map (X.val G s') :=
  List.map_congr_left fun x hx => val_congr fun t ht => h t (List.mem_flatMap.2 ⟨x, hx, ht⟩)
theorem vcOp_congr {CA : FuncId → List D → List O → (D → List O → Prop) → Prop} {op : DO} {s s' : Nat → D} {H : List O} {K : D → List O → Prop} (h : ∀ t ∈ op.reads, s t = s' t) : vcOp CA G op s H K ↔ vcOp CA G op s' H K := by
  have e1 : ∀ {x : X}, (∀ t ∈ x.reads, t ∈ op.reads) → x.val G s = x.val G s' := fun q => val_congr fun t ht => h t (q t ht)
  cases op with
  | bld z parts =>
    have : ∀ p ∈ parts, p.2.2.val G s = p.2.2.val G s' := fun p hp => val_congr fun t ht => h t (List.mem_flatMap.2 ⟨p, hp, ht⟩)
    have e2 : (parts.map fun p => (p.1, (p.2.2.val G s).leaves)) = parts.map fun p => (p.1, (p.2.2.val G s').leaves) := List.map_congr_left fun p hp => by rw [this p hp]
    simp only [vcOp, e2]
    constructor <;> rintro ⟨q1, q2⟩ <;> refine ⟨fun p hp => ?_, q2⟩
    · rw [← this p hp]; exact q1 p hp
    · rw [this p hp]; exact q1 p hp
  | bsl row e sz parts =>
    have : ∀ p ∈ parts, p.val G s = p.val G s' := fun p hp => val_congr fun t ht => h t (List.mem_flatMap.2 ⟨p, hp, ht⟩)
    have e2 := vals_congr (G := G) (xs := parts) h
    simp only [vcOp, e2]
    constructor <;> rintro ⟨q1, q2⟩ <;> refine ⟨fun p hp => ?_, q2⟩
    · rw [← this p hp]; exact q1 p hp
    · rw [this p hp]; exact q1 p hp
  | mkfn f caps =>
    have e2 := vals_congr (G := G) (xs := caps) h
    simp only [vcOp, e2]
  | call f args =>
    have e2 := vals_congr (G := G) (xs := args) fun t ht => h t (by simp only [DO.reads, List.mem_append]; exact .inr ht)
    have e3 := e1 (x := f) fun t ht => by simp only [DO.reads, List.mem_append]; exact .inl ht
    simp only [vcOp, e2, e3]
  | slcS x lo hi =>
    have e2 := e1 (x := x) fun t ht => by simp [DO.reads, ht]
    have e3 := bound_congr (G := G) (x := lo) (s := s) (s' := s') (d := 0) fun t ht => h t (by simp [DO.reads, ht])
    have e4 := fun d => bound_congr (G := G) (x := hi) (s := s) (s' := s') (d := d) fun t ht => h t (by simp [DO.reads, ht])
    simp only [vcOp, e2, e3, e4]
  | slcL sz x lo hi =>
    have e2 := e1 (x := x) fun t ht => by simp [DO.reads, ht]
    have e3 := bound_congr (G := G) (x := lo) (s := s) (s' := s') (d := 0) fun t ht => h t (by simp [DO.reads, ht])
    have e4 := fun d => bound_congr (G := G) (x := hi) (s := s) (s' := s') (d := d) fun t ht => h t (by simp [DO.reads, ht])
    simp only [vcOp, e2, e3, e4]
  | pick c a b =>
    have e2 := e1 (x := c) fun t ht => by simp [DO.reads, ht]
    have e3 := e1 (x := a) fun t ht => by simp [DO.reads, ht]
    have e4 := e1 (x := b) fun t ht => by simp [DO.reads, ht]
    simp only [vcOp, e2, e3, e4]
  | alloc e z => exact Iff.rfl
  | mkmap => exact Iff.rfl
  | frz t => exact Iff.rfl
  | store n x y =>
    have e2 := e1 (x := x) fun t ht => by simp [DO.reads, ht]
    have e3 := e1 (x := y) fun t ht => by simp [DO.reads, ht]
    simp only [vcOp, e2, e3]
  | bin op x y =>
    have e2 := e1 (x := x) fun t ht => by simp [DO.reads, ht]
    have e3 := e1 (x := y) fun t ht => by simp [DO.reads, ht]
    simp only [vcOp, e2, e3]
  | eqb op x y =>
    have e2 := e1 (x := x) fun t ht => by simp [DO.reads, ht]
    have e3 := e1 (x := y) fun t ht => by simp [DO.reads, ht]
    simp only [vcOp, e2, e3]
  | eqn op x y =>
    have e2 := e1 (x := x) fun t ht => by simp [DO.reads, ht]
    have e3 := e1 (x := y) fun t ht => by simp [DO.reads, ht]
    simp only [vcOp, e2, e3]
  | iad n x y =>
    have e2 := e1 (x := x) fun t ht => by simp [DO.reads, ht]
    have e3 := e1 (x := y) fun t ht => by simp [DO.reads, ht]
    simp only [vcOp, e2, e3]
  | iaa n m x y =>
    have e2 := e1 (x := x) fun t ht => by simp [DO.reads, ht]
    have e3 := e1 (x := y) fun t ht => by simp [DO.reads, ht]
    simp only [vcOp, e2, e3]
  | idxS x y =>
    have e2 := e1 (x := x) fun t ht => by simp [DO.reads, ht]
    have e3 := e1 (x := y) fun t ht => by simp [DO.reads, ht]
    simp only [vcOp, e2, e3]
  | appS e x y =>
    have e2 := e1 (x := x) fun t ht => by simp [DO.reads, ht]
    have e3 := e1 (x := y) fun t ht => by simp [DO.reads, ht]
    simp only [vcOp, e2, e3]
  | app e n m x y =>
    have e2 := e1 (x := x) fun t ht => by simp [DO.reads, ht]
    have e3 := e1 (x := y) fun t ht => by simp [DO.reads, ht]
    simp only [vcOp, e2, e3]
  | mv x => have e2 := e1 (x := x) fun t ht => ht; simp only [vcOp, e2]
  | box e x => have e2 := e1 (x := x) fun t ht => ht; simp only [vcOp, e2]
  | load n b x => have e2 := e1 (x := x) fun t ht => ht; simp only [vcOp, e2]
  | nilck x => have e2 := e1 (x := x) fun t ht => ht; simp only [vcOp, e2]
  | un op x => have e2 := e1 (x := x) fun t ht => ht; simp only [vcOp, e2]
  | conv k x => have e2 := e1 (x := x) fun t ht => ht; simp only [vcOp, e2]
  | str x => have e2 := e1 (x := x) fun t ht => ht; simp only [vcOp, e2]
  | fad off x => have e2 := e1 (x := x) fun t ht => ht; simp only [vcOp, e2]
  | fld off n b x => have e2 := e1 (x := x) fun t ht => ht; simp only [vcOp, e2]
  | ext x i => have e2 := e1 (x := x) fun t ht => ht; simp only [vcOp, e2]
  | lenS x => have e2 := e1 (x := x) fun t ht => ht; simp only [vcOp, e2]
  | lenL x => have e2 := e1 (x := x) fun t ht => ht; simp only [vcOp, e2]
  | lenM x => have e2 := e1 (x := x) fun t ht => ht; simp only [vcOp, e2]
  | slcA n x => have e2 := e1 (x := x) fun t ht => ht; simp only [vcOp, e2]
  | rng x => have e2 := e1 (x := x) fun t ht => ht; simp only [vcOp, e2]
  | nxt x => have e2 := e1 (x := x) fun t ht => ht; simp only [vcOp, e2]
  | ent x => have e2 := e1 (x := x) fun t ht => ht; simp only [vcOp, e2]
  | idxA n m b x y =>
    have e2 := e1 (x := x) fun t ht => by simp [DO.reads, ht]
    have e3 := e1 (x := y) fun t ht => by simp [DO.reads, ht]
    simp only [vcOp, e2, e3]
  | mget kd z ok x y =>
    have e2 := e1 (x := x) fun t ht => by simp [DO.reads, ht]
    have e3 := e1 (x := y) fun t ht => by simp [DO.reads, ht]
    simp only [vcOp, e2, e3]
  | mput kd c a b =>
    have e2 := e1 (x := c) fun t ht => by simp [DO.reads, ht]
    have e3 := e1 (x := a) fun t ht => by simp [DO.reads, ht]
    have e4 := e1 (x := b) fun t ht => by simp [DO.reads, ht]
    simp only [vcOp, e2, e3, e4]
end
end Go.DL
