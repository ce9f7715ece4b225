/- Part of a proof of the statement Round; what it needs in which order stands in GOCLAIM.json. -/
import Derived.WalkKit
import Derived.Laws.Externs
import Derived.Shelf.RegionOpenPlain
import Derived.Test.YtoehhfhjnjfgiaaDoorRoundF
set_option maxRecDepth 100000
set_option linter.unusedSimpArgs false
set_option linter.unusedVariables false
namespace Go.Proofs.Tryd
open Go Go.DL
variable {G : Nat → D} {H : List O} {Q : D → List O → Prop}
def msr (id : Nat) (H' : List O) : Nat := match H'[id]? with
  | some (.box _ [.sl xs, .lit (.bool b)]) => xs.length + (if b then 0 else 1)
  | _ => 0
theorem onBox_rs (e : TypeId) (t : RS) (K : TypeId → List D → Prop) : onBox (some (rsO e t)) K = K e [.sl (toksD t.l), dB t.bad] := rfl
theorem msr_eq {H Gs : List O} {id : Nat} {e : TypeId} {t : RS} (h : id < H.length) : msr id (H.set id (rsO e t) ++ Gs) = t.left := by
  unfold msr; rw [get_lS _ _ _ _ h]; simp [rsO, RS.left, toksD]
theorem rule_spec (hE : Env G) {id : Nat} {e : TypeId} (s : RS) (hs : s.ok) (hH : H[id]? = some (rsO e s)) (hQ : Q (ruleD (ruleOf s)) (H.set id (rsO e (rsWho s).2))) : CallA Tryd.prog G 30 [.ptr id 0] H Q := by
  have hid : id < H.length := (List.getElem?_eq_some_iff.1 hH).1
  refine CallA.deepSet id (s30 (Nat.le_of_ble_eq_true rfl) ?_)
  have hset : H.set id (rsO e s) = H := set_self H _ id hH
  generalize hfin : (fun d H' => ∃ o' Gs d', O.Below H.length o' ∧ H' = H.set id o' ++ Gs ∧ Deep (H.set id o' ++ DL.frzAll Gs) d d' ∧ Below H.length d' ∧ Q d' (H.set id o')) = Fin
  suffices h : ∀ H0, H0 = H.set id (rsO e s) → vc (CallA Tryd.prog G) G dc30 (args0 [.ptr id 0]) H0 (retK [.cell 2 4 true] Fin) from h H hset.symm
  rintro _ rfl
  simp -dsimp -implicitDefEqProofs (maxSteps := 1000000) (disch := first | omega | (simp only [List.length_append, List.length_cons, List.length_nil]; omega) | (intros; simp only [ne_eq, reduceCtorEq, not_false_eq_true] <;> fail)) only [DL.R, Nat.reduceEqDiff, ↓reduceIte, reduceCtorEq, Int.reduceToNat, Int.reduceLE, Int.reduceLT, Nat.reduceLeDiff, Nat.reduceAdd, Nat.reduceMul, Int.reduceBNe, Int.reduceBEq, Int.cast_ofNat_Int, decide_true, decide_false, ne_eq, eq_self, implies_true, dc30_r0, dc30_r1, dc30_r2, dc30_r3, dc30_r4, dc30_r5, dc30_r6, dc30_r7, dc30_r8, dc30_r9, dc30_r10, dc30_r11, dc30_r12, dc30_r13, dc30_r14, dc30_r15, dc30, DL.dI, DL.dB, DL.dS, DL.set_lS, DL.get_lS, DL.get_ownS, DL.get_ownS0, DL.set_ownS, DL.set_ownS0, List.length_set]
  refine nextR (s := s) (get_lS H _ _ id hid) ?_
  simp -dsimp -implicitDefEqProofs (maxSteps := 1000000) (disch := first | omega | (simp only [List.length_append, List.length_cons, List.length_nil]; omega) | (intros; simp only [ne_eq, reduceCtorEq, not_false_eq_true] <;> fail)) only [DL.R, Nat.reduceEqDiff, ↓reduceIte, reduceCtorEq, Int.reduceToNat, Int.reduceLE, Int.reduceLT, Nat.reduceLeDiff, Nat.reduceAdd, Nat.reduceMul, Int.reduceBNe, Int.reduceBEq, Int.cast_ofNat_Int, decide_true, decide_false, ne_eq, eq_self, implies_true, dc30_r0, dc30_r1, dc30_r2, dc30_r3, dc30_r4, dc30_r5, dc30_r6, dc30_r7, dc30_r8, dc30_r9, dc30_r10, dc30_r11, dc30_r12, dc30_r13, dc30_r14, dc30_r15, dc30, DL.dI, DL.dB, DL.dS, DL.set_lS, DL.get_lS, DL.get_ownS, DL.get_ownS0, DL.set_ownS, DL.set_ownS0, List.length_set]
  refine what_spec kindsL rfl _ hE.kinds ?_
  simp -dsimp -implicitDefEqProofs (maxSteps := 1000000) (disch := first | omega | (simp only [List.length_append, List.length_cons, List.length_nil]; omega) | (intros; simp only [ne_eq, reduceCtorEq, not_false_eq_true] <;> fail)) only [DL.R, Nat.reduceEqDiff, ↓reduceIte, reduceCtorEq, Int.reduceToNat, Int.reduceLE, Int.reduceLT, Nat.reduceLeDiff, Nat.reduceAdd, Nat.reduceMul, Int.reduceBNe, Int.reduceBEq, Int.cast_ofNat_Int, decide_true, decide_false, ne_eq, eq_self, implies_true, dc30_r0, dc30_r1, dc30_r2, dc30_r3, dc30_r4, dc30_r5, dc30_r6, dc30_r7, dc30_r8, dc30_r9, dc30_r10, dc30_r11, dc30_r12, dc30_r13, dc30_r14, dc30_r15, dc30, DL.dI, DL.dB, DL.dS, DL.set_lS, DL.get_lS, DL.get_ownS, DL.get_ownS0, DL.set_ownS, DL.set_ownS0, List.length_set]
  refine takeR (s := s) _ (get_lS H _ _ id hid) ?_

  obtain ⟨s1, h1⟩ : ∃ x, s.take (isWhat kindsL s.nx) = x := ⟨_, rfl⟩
  have h1' : rs1 s = s1 := h1
  have ok1 : s1.ok := h1 ▸ RS.take_ok hs
  rw [h1]
  simp -dsimp -implicitDefEqProofs (maxSteps := 1000000) (disch := first | omega | (simp only [List.length_append, List.length_cons, List.length_nil]; omega) | (intros; simp only [ne_eq, reduceCtorEq, not_false_eq_true] <;> fail)) only [DL.R, Nat.reduceEqDiff, ↓reduceIte, reduceCtorEq, Int.reduceToNat, Int.reduceLE, Int.reduceLT, Nat.reduceLeDiff, Nat.reduceAdd, Nat.reduceMul, Int.reduceBNe, Int.reduceBEq, Int.cast_ofNat_Int, decide_true, decide_false, ne_eq, eq_self, implies_true, dc30_r0, dc30_r1, dc30_r2, dc30_r3, dc30_r4, dc30_r5, dc30_r6, dc30_r7, dc30_r8, dc30_r9, dc30_r10, dc30_r11, dc30_r12, dc30_r13, dc30_r14, dc30_r15, dc30, DL.dI, DL.dB, DL.dS, DL.set_lS, DL.get_lS, DL.get_ownS, DL.get_ownS0, DL.set_ownS, DL.set_ownS0, List.length_set]
  refine ⟨by omega, ?_⟩
  refine nextR (s := s1) (get_lS H _ _ id hid) ?_
  by_cases hin : s1.nx = [105, 110]
  · have e1 : (s1.nx == [105, 110]) = true := by simp [hin]
    simp -dsimp -implicitDefEqProofs (maxSteps := 1000000) (disch := first | omega | (simp only [List.length_append, List.length_cons, List.length_nil]; omega) | (intros; simp only [ne_eq, reduceCtorEq, not_false_eq_true] <;> fail)) only [DL.R, Nat.reduceEqDiff, ↓reduceIte, reduceCtorEq, Int.reduceToNat, Int.reduceLE, Int.reduceLT, Nat.reduceLeDiff, Nat.reduceAdd, Nat.reduceMul, Int.reduceBNe, Int.reduceBEq, Int.cast_ofNat_Int, decide_true, decide_false, ne_eq, eq_self, implies_true, dc30_r0, dc30_r1, dc30_r2, dc30_r3, dc30_r4, dc30_r5, dc30_r6, dc30_r7, dc30_r8, dc30_r9, dc30_r10, dc30_r11, dc30_r12, dc30_r13, dc30_r14, dc30_r15, dc30, DL.dI, DL.dB, DL.dS, DL.set_lS, DL.get_lS, DL.get_ownS, DL.get_ownS0, DL.set_ownS, DL.set_ownS0, List.length_set, e1]
    refine takeR (s := s1) true (get_lS H _ _ id hid) ?_
    obtain ⟨s2, h2⟩ : ∃ x, s1.take true = x := ⟨_, rfl⟩
    have h2' : rs2 s = s2 := by unfold rs2; rw [h1', h2]
    have ok2 : s2.ok := h2 ▸ RS.take_ok ok1
    rw [h2]
    simp -dsimp -implicitDefEqProofs (maxSteps := 1000000) (disch := first | omega | (simp only [List.length_append, List.length_cons, List.length_nil]; omega) | (intros; simp only [ne_eq, reduceCtorEq, not_false_eq_true] <;> fail)) only [DL.R, Nat.reduceEqDiff, ↓reduceIte, reduceCtorEq, Int.reduceToNat, Int.reduceLE, Int.reduceLT, Nat.reduceLeDiff, Nat.reduceAdd, Nat.reduceMul, Int.reduceBNe, Int.reduceBEq, Int.cast_ofNat_Int, decide_true, decide_false, ne_eq, eq_self, implies_true, dc30_r0, dc30_r1, dc30_r2, dc30_r3, dc30_r4, dc30_r5, dc30_r6, dc30_r7, dc30_r8, dc30_r9, dc30_r10, dc30_r11, dc30_r12, dc30_r13, dc30_r14, dc30_r15, dc30, DL.dI, DL.dB, DL.dS, DL.set_lS, DL.get_lS, DL.get_ownS, DL.get_ownS0, DL.set_ownS, DL.set_ownS0, List.length_set]
    refine nextR (s := s2) (get_lS H _ _ id hid) ?_
    simp -dsimp -implicitDefEqProofs (maxSteps := 1000000) (disch := first | omega | (simp only [List.length_append, List.length_cons, List.length_nil]; omega) | (intros; simp only [ne_eq, reduceCtorEq, not_false_eq_true] <;> fail)) only [DL.R, Nat.reduceEqDiff, ↓reduceIte, reduceCtorEq, Int.reduceToNat, Int.reduceLE, Int.reduceLT, Nat.reduceLeDiff, Nat.reduceAdd, Nat.reduceMul, Int.reduceBNe, Int.reduceBEq, Int.cast_ofNat_Int, decide_true, decide_false, ne_eq, eq_self, implies_true, dc30_r0, dc30_r1, dc30_r2, dc30_r3, dc30_r4, dc30_r5, dc30_r6, dc30_r7, dc30_r8, dc30_r9, dc30_r10, dc30_r11, dc30_r12, dc30_r13, dc30_r14, dc30_r15, dc30, DL.dI, DL.dB, DL.dS, DL.set_lS, DL.get_lS, DL.get_ownS, DL.get_ownS0, DL.set_ownS, DL.set_ownS0, List.length_set]
    refine word_spec kwL rfl _ (by have := RS.nx_len ok2; omega) hE.kw hE.kindsF hE.signs ?_
    simp -dsimp -implicitDefEqProofs (maxSteps := 1000000) (disch := first | omega | (simp only [List.length_append, List.length_cons, List.length_nil]; omega) | (intros; simp only [ne_eq, reduceCtorEq, not_false_eq_true] <;> fail)) only [DL.R, Nat.reduceEqDiff, ↓reduceIte, reduceCtorEq, Int.reduceToNat, Int.reduceLE, Int.reduceLT, Nat.reduceLeDiff, Nat.reduceAdd, Nat.reduceMul, Int.reduceBNe, Int.reduceBEq, Int.cast_ofNat_Int, decide_true, decide_false, ne_eq, eq_self, implies_true, dc30_r0, dc30_r1, dc30_r2, dc30_r3, dc30_r4, dc30_r5, dc30_r6, dc30_r7, dc30_r8, dc30_r9, dc30_r10, dc30_r11, dc30_r12, dc30_r13, dc30_r14, dc30_r15, dc30, DL.dI, DL.dB, DL.dS, DL.set_lS, DL.get_lS, DL.get_ownS, DL.get_ownS0, DL.set_ownS, DL.set_ownS0, List.length_set]
    refine takeR (s := s2) _ (get_lS H _ _ id hid) ?_
    obtain ⟨s3, h3⟩ : ∃ x, s2.take (isWord kwL s2.nx) = x := ⟨_, rfl⟩
    have h3' : rs3 s = s3 := by unfold rs3; rw [h1', h2', if_pos hin, h3]
    have ok3 : s3.ok := h3 ▸ RS.take_ok ok2
    obtain ⟨mod, hmod⟩ : ∃ m, rsMod s = m := ⟨_, rfl⟩
    have hm : s2.got (isWord kwL s2.nx) = mod := by rw [← hmod]; unfold rsMod; rw [h1', h2', if_pos hin]
    rw [h3, hm]
    simp -dsimp -implicitDefEqProofs (maxSteps := 1000000) (disch := first | omega | (simp only [List.length_append, List.length_cons, List.length_nil]; omega) | (intros; simp only [ne_eq, reduceCtorEq, not_false_eq_true] <;> fail)) only [DL.R, Nat.reduceEqDiff, ↓reduceIte, reduceCtorEq, Int.reduceToNat, Int.reduceLE, Int.reduceLT, Nat.reduceLeDiff, Nat.reduceAdd, Nat.reduceMul, Int.reduceBNe, Int.reduceBEq, Int.cast_ofNat_Int, decide_true, decide_false, ne_eq, eq_self, implies_true, dc30_r0, dc30_r1, dc30_r2, dc30_r3, dc30_r4, dc30_r5, dc30_r6, dc30_r7, dc30_r8, dc30_r9, dc30_r10, dc30_r11, dc30_r12, dc30_r13, dc30_r14, dc30_r15, dc30, DL.dI, DL.dB, DL.dS, DL.set_lS, DL.get_lS, DL.get_ownS, DL.get_ownS0, DL.set_ownS, DL.set_ownS0, List.length_set]
    refine nextR (s := s3) (get_lS H _ _ id hid) ?_
    simp -dsimp -implicitDefEqProofs (maxSteps := 1000000) (disch := first | omega | (simp only [List.length_append, List.length_cons, List.length_nil]; omega) | (intros; simp only [ne_eq, reduceCtorEq, not_false_eq_true] <;> fail)) only [DL.R, Nat.reduceEqDiff, ↓reduceIte, reduceCtorEq, Int.reduceToNat, Int.reduceLE, Int.reduceLT, Nat.reduceLeDiff, Nat.reduceAdd, Nat.reduceMul, Int.reduceBNe, Int.reduceBEq, Int.cast_ofNat_Int, decide_true, decide_false, ne_eq, eq_self, implies_true, dc30_r0, dc30_r1, dc30_r2, dc30_r3, dc30_r4, dc30_r5, dc30_r6, dc30_r7, dc30_r8, dc30_r9, dc30_r10, dc30_r11, dc30_r12, dc30_r13, dc30_r14, dc30_r15, dc30, DL.dI, DL.dB, DL.dS, DL.set_lS, DL.get_lS, DL.get_ownS, DL.get_ownS0, DL.set_ownS, DL.set_ownS0, List.length_set]
    refine takeR (s := s3) _ (get_lS H _ _ id hid) ?_
    obtain ⟨s4, h4⟩ : ∃ x, s3.take (s3.nx == [58]) = x := ⟨_, rfl⟩
    have h4' : rs4 s = s4 := by unfold rs4; rw [h3', h4]
    have ok4 : s4.ok := h4 ▸ RS.take_ok ok3
    rw [h4]
    simp -dsimp -implicitDefEqProofs (maxSteps := 1000000) (disch := first | omega | (simp only [List.length_append, List.length_cons, List.length_nil]; omega) | (intros; simp only [ne_eq, reduceCtorEq, not_false_eq_true] <;> fail)) only [DL.R, Nat.reduceEqDiff, ↓reduceIte, reduceCtorEq, Int.reduceToNat, Int.reduceLE, Int.reduceLT, Nat.reduceLeDiff, Nat.reduceAdd, Nat.reduceMul, Int.reduceBNe, Int.reduceBEq, Int.cast_ofNat_Int, decide_true, decide_false, ne_eq, eq_self, implies_true, dc30_r0, dc30_r1, dc30_r2, dc30_r3, dc30_r4, dc30_r5, dc30_r6, dc30_r7, dc30_r8, dc30_r9, dc30_r10, dc30_r11, dc30_r12, dc30_r13, dc30_r14, dc30_r15, dc30, DL.dI, DL.dB, DL.dS, DL.set_lS, DL.get_lS, DL.get_ownS, DL.get_ownS0, DL.set_ownS, DL.set_ownS0, List.length_set]
    refine numR hE (s := s4) ok4 1 8 (get_lS H _ _ id hid) ?_
    obtain ⟨s5, h5⟩ : ∃ x, s4.num 1 8 = x := ⟨_, rfl⟩
    have h5' : rs5 s = s5 := by unfold rs5; rw [h4', h5]
    have ok5 : s5.ok := h5 ▸ RS.take_ok ok4
    rw [h5]
    simp -dsimp -implicitDefEqProofs (maxSteps := 1000000) (disch := first | omega | (simp only [List.length_append, List.length_cons, List.length_nil]; omega) | (intros; simp only [ne_eq, reduceCtorEq, not_false_eq_true] <;> fail)) only [DL.R, Nat.reduceEqDiff, ↓reduceIte, reduceCtorEq, Int.reduceToNat, Int.reduceLE, Int.reduceLT, Nat.reduceLeDiff, Nat.reduceAdd, Nat.reduceMul, Int.reduceBNe, Int.reduceBEq, Int.cast_ofNat_Int, decide_true, decide_false, ne_eq, eq_self, implies_true, dc30_r0, dc30_r1, dc30_r2, dc30_r3, dc30_r4, dc30_r5, dc30_r6, dc30_r7, dc30_r8, dc30_r9, dc30_r10, dc30_r11, dc30_r12, dc30_r13, dc30_r14, dc30_r15, dc30, DL.dI, DL.dB, DL.dS, DL.set_lS, DL.get_lS, DL.get_ownS, DL.get_ownS0, DL.set_ownS, DL.set_ownS0, List.length_set]
    refine nextR (s := s5) (get_lS H _ _ id hid) ?_
    simp -dsimp -implicitDefEqProofs (maxSteps := 1000000) (disch := first | omega | (simp only [List.length_append, List.length_cons, List.length_nil]; omega) | (intros; simp only [ne_eq, reduceCtorEq, not_false_eq_true] <;> fail)) only [DL.R, Nat.reduceEqDiff, ↓reduceIte, reduceCtorEq, Int.reduceToNat, Int.reduceLE, Int.reduceLT, Nat.reduceLeDiff, Nat.reduceAdd, Nat.reduceMul, Int.reduceBNe, Int.reduceBEq, Int.cast_ofNat_Int, decide_true, decide_false, ne_eq, eq_self, implies_true, dc30_r0, dc30_r1, dc30_r2, dc30_r3, dc30_r4, dc30_r5, dc30_r6, dc30_r7, dc30_r8, dc30_r9, dc30_r10, dc30_r11, dc30_r12, dc30_r13, dc30_r14, dc30_r15, dc30, DL.dI, DL.dB, DL.dS, DL.set_lS, DL.get_lS, DL.get_ownS, DL.get_ownS0, DL.set_ownS, DL.set_ownS0, List.length_set]
    refine takeR (s := s5) _ (get_lS H _ _ id hid) ?_
    obtain ⟨s6, h6⟩ : ∃ x, s5.take (s5.nx == [111, 102]) = x := ⟨_, rfl⟩
    have h6' : rs6 s = s6 := by unfold rs6; rw [h5', h6]
    have ok6 : s6.ok := h6 ▸ RS.take_ok ok5
    rw [h6]
    obtain ⟨n, hn⟩ : ∃ n, numT s4.nx = n := ⟨_, rfl⟩
    have hnb : -1000000000000000000 ≤ n ∧ n ≤ 1000000000000000000 := hn ▸ numT_bound (RS.nx_len ok4)
    have hwho : rsWho s = whoF (s6.left + 1) s6 0 n [] := by unfold rsWho; rw [h6', h4', hn]
    have hleft6 : s6.left ≤ 8193 := by unfold RS.left; have := ok6.1; split <;> omega
    rw [hn]
    have last : ∀ (who : List Int) (t : RS) (Gs : List O), rsWho s = (who, t) → Fin (.agg [dS (str (s.got (isWhat kindsL s.nx))), dS (str mod), dI n, .sl (ints who)]) (H.set id (rsO e t) ++ Gs) := by
      intro who t Gs hw
      rw [← hfin]
      have hro : ruleOf s = ⟨str (s.got (isWhat kindsL s.nx)), str mod, n, who⟩ := by unfold ruleOf; rw [hmod, h4', hn, hw]
      have hro' : ruleD (ruleOf s) = .agg [dS (str (s.got (isWhat kindsL s.nx))), dS (str mod), dI n, .sl (ints who)] := by rw [hro]; rfl
      refine ⟨rsO e t, Gs, ruleD (ruleOf s), rs_below _ _ _, rfl, by rw [hro']; exact Deep.refl _ _, by rw [hro']; simp [below_agg, below_sl, below_lit, ints, D.leaves], ?_⟩
      rw [hw] at hQ; exact hQ
    simp -dsimp -implicitDefEqProofs (maxSteps := 1000000) (disch := first | omega | (simp only [List.length_append, List.length_cons, List.length_nil]; omega) | (intros; simp only [ne_eq, reduceCtorEq, not_false_eq_true] <;> fail)) only [DL.R, Nat.reduceEqDiff, ↓reduceIte, reduceCtorEq, Int.reduceToNat, Int.reduceLE, Int.reduceLT, Nat.reduceLeDiff, Nat.reduceAdd, Nat.reduceMul, Int.reduceBNe, Int.reduceBEq, Int.cast_ofNat_Int, decide_true, decide_false, ne_eq, eq_self, implies_true, dc30_r0, dc30_r1, dc30_r2, dc30_r3, dc30_r4, dc30_r5, dc30_r6, dc30_r7, dc30_r8, dc30_r9, dc30_r10, dc30_r11, dc30_r12, dc30_r13, dc30_r14, dc30_r15, dc30, DL.dI, DL.dB, DL.dS, DL.set_lS, DL.get_lS, DL.get_ownS, DL.get_ownS0, DL.set_ownS, DL.set_ownS0, List.length_set]
    refine loop_i (fun s' H' => s' 0 = .ptr id 0 ∧ s' 2 = .ptr H.length 0 ∧ s' 3 = .ptr (H.length + 1) 0 ∧ ∃ (f : Nat) (t : RS) (least : Int) (who : List Int) (ver : Nat), t.ok ∧ -1000000000000000000 ≤ least ∧ least ≤ 1000000000000000001 ∧ t.left < f ∧ who.length + t.left ≤ 8193 ∧
        rsWho s = whoF f t least n who ∧ s' 4 = dI least ∧ H' = H.set id (rsO e t) ++ [.box 42 [.lit (.string (str [])), .lit (.string (str [])), .lit (.int .i64 0), .lit (.slice none 0 0)], .box 42 [dS (str (s.got (isWhat kindsL s.nx))), dS (str mod), dI n, .row (H.length + 2) ver], .row true ver 3 1 (ints who)])
      (fun _ H' => msr id H') ?_ ?_
    · simp -dsimp -implicitDefEqProofs (maxSteps := 1000000) (disch := first | omega | (simp only [List.length_append, List.length_cons, List.length_nil]; omega) | (intros; simp only [ne_eq, reduceCtorEq, not_false_eq_true] <;> fail)) only [DL.R, Nat.reduceEqDiff, ↓reduceIte, reduceCtorEq, Int.reduceToNat, Int.reduceLE, Int.reduceLT, Nat.reduceLeDiff, Nat.reduceAdd, Nat.reduceMul, Int.reduceBNe, Int.reduceBEq, Int.cast_ofNat_Int, decide_true, decide_false, ne_eq, eq_self, implies_true, DL.dI, DL.dB, DL.dS]
      exact ⟨s6.left + 1, s6, 0, [], 0, ok6, by omega, by omega, by omega, by simpa using hleft6, hwho, rfl, rfl⟩
    · rintro s' H' ⟨g0, g2, g3, f, t, least, who, ver, okt, hl0, hl1, hf, hwl, hW, g4, rfl⟩
      obtain ⟨f, rfl⟩ : ∃ m, f = m + 1 := ⟨f - 1, by omega⟩
      rw [whoF] at hW
      have hil : (ints who).length = who.length := by simp [ints]
      by_cases hb : t.bad = true
      · rw [if_pos hb] at hW
        simp -dsimp -implicitDefEqProofs (maxSteps := 1000000) (disch := first | omega | (simp only [List.length_append, List.length_cons, List.length_nil]; omega) | (intros; simp only [ne_eq, reduceCtorEq, not_false_eq_true] <;> fail)) only [DL.R, Nat.reduceEqDiff, ↓reduceIte, reduceCtorEq, Int.reduceToNat, Int.reduceLE, Int.reduceLT, Nat.reduceLeDiff, Nat.reduceAdd, Nat.reduceMul, Int.reduceBNe, Int.reduceBEq, Int.cast_ofNat_Int, decide_true, decide_false, ne_eq, eq_self, implies_true, dc30_r0, dc30_r1, dc30_r2, dc30_r3, dc30_r4, dc30_r5, dc30_r6, dc30_r7, dc30_r8, dc30_r9, dc30_r10, dc30_r11, dc30_r12, dc30_r13, dc30_r14, dc30_r15, dc30, DL.dI, DL.dB, DL.dS, g0, g2, g3, g4, DL.set_lS, DL.get_lS, DL.get_ownS, DL.get_ownS0, DL.set_ownS, DL.set_ownS0, List.length_set, onBox_rs, hb]
        exact last who t _ hW
      · rw [if_neg hb] at hW
        have hb' : t.bad = false := by simpa using hb
        simp -dsimp -implicitDefEqProofs (maxSteps := 1000000) (disch := first | omega | (simp only [List.length_append, List.length_cons, List.length_nil]; omega) | (intros; simp only [ne_eq, reduceCtorEq, not_false_eq_true] <;> fail)) only [DL.R, Nat.reduceEqDiff, ↓reduceIte, reduceCtorEq, Int.reduceToNat, Int.reduceLE, Int.reduceLT, Nat.reduceLeDiff, Nat.reduceAdd, Nat.reduceMul, Int.reduceBNe, Int.reduceBEq, Int.cast_ofNat_Int, decide_true, decide_false, ne_eq, eq_self, implies_true, dc30_r0, dc30_r1, dc30_r2, dc30_r3, dc30_r4, dc30_r5, dc30_r6, dc30_r7, dc30_r8, dc30_r9, dc30_r10, dc30_r11, dc30_r12, dc30_r13, dc30_r14, dc30_r15, dc30, DL.dI, DL.dB, DL.dS, g0, g2, g3, g4, DL.set_lS, DL.get_lS, DL.get_ownS, DL.get_ownS0, DL.set_ownS, DL.set_ownS0, List.length_set, onBox_rs, hb']
        refine numR hE (s := t) okt least 7 (get_lS H _ _ id hid) ?_
        obtain ⟨u, hu⟩ : ∃ x, t.num least 7 = x := ⟨_, rfl⟩
        have oku : u.ok := hu ▸ RS.take_ok okt
        obtain ⟨w, hw⟩ : ∃ w, numT t.nx = w := ⟨_, rfl⟩
        have hwb : -1000000000000000000 ≤ w ∧ w ≤ 1000000000000000000 := hw ▸ numT_bound (RS.nx_len okt)
        have hul : u.left < t.left := hu ▸ (RS.take_left.2 hb')
        have hsn : ints (who ++ [w]) = ints who ++ [dI w] := ints_snoc _ _
        have hlw : ((who ++ [w]).length : Int) = (who.length : Int) + 1 := by simp
        rw [hu, hw] at hW ⊢
        rw [hlw] at hW
        simp -dsimp -implicitDefEqProofs (maxSteps := 1000000) (disch := first | omega | (simp only [List.length_append, List.length_cons, List.length_nil]; omega) | (intros; simp only [ne_eq, reduceCtorEq, not_false_eq_true] <;> fail)) only [DL.R, Nat.reduceEqDiff, ↓reduceIte, reduceCtorEq, Int.reduceToNat, Int.reduceLE, Int.reduceLT, Nat.reduceLeDiff, Nat.reduceAdd, Nat.reduceMul, Int.reduceBNe, Int.reduceBEq, Int.cast_ofNat_Int, decide_true, decide_false, ne_eq, eq_self, implies_true, dc30_r0, dc30_r1, dc30_r2, dc30_r3, dc30_r4, dc30_r5, dc30_r6, dc30_r7, dc30_r8, dc30_r9, dc30_r10, dc30_r11, dc30_r12, dc30_r13, dc30_r14, dc30_r15, dc30, DL.dI, DL.dB, DL.dS, g0, g2, g3, g4, DL.set_lS, DL.get_lS, DL.get_ownS, DL.get_ownS0, DL.set_ownS, DL.set_ownS0, List.length_set, hil]
        refine ⟨by omega, ?_⟩
        have hle : ((ints who ++ [D.lit (.int .i64 w)]).length : Int) = (who.length : Int) + 1 := by simp [ints]
        have hlen2 : ((who.length + 1 : Nat) : Int) = (who.length : Int) + 1 := by simp
        by_cases c1 : n ≤ (who.length : Int) + 1
        · have f1 : decide ((who.length : Int) + 1 ≥ n) = true := by simp; omega
          have f1' : decide (n ≤ (who.length : Int) + 1) = true := by simp; omega
          simp -dsimp -implicitDefEqProofs (maxSteps := 1000000) (disch := first | omega | (simp only [List.length_append, List.length_cons, List.length_nil]; omega) | (intros; simp only [ne_eq, reduceCtorEq, not_false_eq_true] <;> fail)) only [DL.R, Nat.reduceEqDiff, ↓reduceIte, reduceCtorEq, Int.reduceToNat, Int.reduceLE, Int.reduceLT, Nat.reduceLeDiff, Nat.reduceAdd, Nat.reduceMul, Int.reduceBNe, Int.reduceBEq, Int.cast_ofNat_Int, decide_true, decide_false, ne_eq, eq_self, implies_true, dc30_r0, dc30_r1, dc30_r2, dc30_r3, dc30_r4, dc30_r5, dc30_r6, dc30_r7, dc30_r8, dc30_r9, dc30_r10, dc30_r11, dc30_r12, dc30_r13, dc30_r14, dc30_r15, dc30, DL.dI, DL.dB, DL.dS, g0, g2, g3, g4, DL.set_lS, DL.get_lS, DL.get_ownS, DL.get_ownS0, DL.set_ownS, DL.set_ownS0, List.length_set, hil, List.length_append, Int.natCast_add, f1, DL.wrap_id]
          refine nextR (s := u) (get_lS H _ _ id hid) ?_
          by_cases c2 : u.nx = [44]
          · have f2 : (u.nx != [44]) = false := by simp [c2]
            have f3 : (u.nx == [44]) = true := by simp [c2]
            rw [f1', f2, f3] at hW
            simp only [Bool.and_false, Bool.false_eq_true, if_false] at hW
            simp -dsimp -implicitDefEqProofs (maxSteps := 1000000) (disch := first | omega | (simp only [List.length_append, List.length_cons, List.length_nil]; omega) | (intros; simp only [ne_eq, reduceCtorEq, not_false_eq_true] <;> fail)) only [DL.R, Nat.reduceEqDiff, ↓reduceIte, reduceCtorEq, Int.reduceToNat, Int.reduceLE, Int.reduceLT, Nat.reduceLeDiff, Nat.reduceAdd, Nat.reduceMul, Int.reduceBNe, Int.reduceBEq, Int.cast_ofNat_Int, decide_true, decide_false, ne_eq, eq_self, implies_true, dc30_r0, dc30_r1, dc30_r2, dc30_r3, dc30_r4, dc30_r5, dc30_r6, dc30_r7, dc30_r8, dc30_r9, dc30_r10, dc30_r11, dc30_r12, dc30_r13, dc30_r14, dc30_r15, dc30, DL.dI, DL.dB, DL.dS, g0, g2, g3, g4, DL.set_lS, DL.get_lS, DL.get_ownS, DL.get_ownS0, DL.set_ownS, DL.set_ownS0, List.length_set, hil, f3, DL.wrap_id]
            refine nextR (s := u) (get_lS H _ _ id hid) ?_
            simp -dsimp -implicitDefEqProofs (maxSteps := 1000000) (disch := first | omega | (simp only [List.length_append, List.length_cons, List.length_nil]; omega) | (intros; simp only [ne_eq, reduceCtorEq, not_false_eq_true] <;> fail)) only [DL.R, Nat.reduceEqDiff, ↓reduceIte, reduceCtorEq, Int.reduceToNat, Int.reduceLE, Int.reduceLT, Nat.reduceLeDiff, Nat.reduceAdd, Nat.reduceMul, Int.reduceBNe, Int.reduceBEq, Int.cast_ofNat_Int, decide_true, decide_false, ne_eq, eq_self, implies_true, dc30_r0, dc30_r1, dc30_r2, dc30_r3, dc30_r4, dc30_r5, dc30_r6, dc30_r7, dc30_r8, dc30_r9, dc30_r10, dc30_r11, dc30_r12, dc30_r13, dc30_r14, dc30_r15, dc30, DL.dI, DL.dB, DL.dS, g0, g2, g3, g4, DL.set_lS, DL.get_lS, DL.get_ownS, DL.get_ownS0, DL.set_ownS, DL.set_ownS0, List.length_set, hil, f3, DL.wrap_id]
            refine takeR (s := u) _ (get_lS H _ _ id hid) ?_
            simp -dsimp -implicitDefEqProofs (maxSteps := 1000000) (disch := first | omega | (simp only [List.length_append, List.length_cons, List.length_nil]; omega) | (intros; simp only [ne_eq, reduceCtorEq, not_false_eq_true] <;> fail)) only [DL.R, Nat.reduceEqDiff, ↓reduceIte, reduceCtorEq, Int.reduceToNat, Int.reduceLE, Int.reduceLT, Nat.reduceLeDiff, Nat.reduceAdd, Nat.reduceMul, Int.reduceBNe, Int.reduceBEq, Int.cast_ofNat_Int, decide_true, decide_false, ne_eq, eq_self, implies_true, dc30_r0, dc30_r1, dc30_r2, dc30_r3, dc30_r4, dc30_r5, dc30_r6, dc30_r7, dc30_r8, dc30_r9, dc30_r10, dc30_r11, dc30_r12, dc30_r13, dc30_r14, dc30_r15, dc30, DL.dI, DL.dB, DL.dS, g0, g2, g3, g4, DL.set_lS, DL.get_lS, DL.get_ownS, DL.get_ownS0, DL.set_ownS, DL.set_ownS0, List.length_set, hil, DL.wrap_id]
            have hul2 := (RS.take_left (s := u) (b := true)).1
            rw [msr_eq hid, msr_eq hid]
            exact ⟨⟨f, u.take true, w + 1, who ++ [w], ver + 1, RS.take_ok oku, by omega, by omega, by omega, by simp; omega, hW, rfl, by rw [hsn]⟩, by omega⟩
          · have f2 : (u.nx != [44]) = true := by simp [c2]
            have f3 : (u.nx == [44]) = false := by simp [c2]
            rw [f1', f2] at hW
            simp only [Bool.and_true, if_true] at hW
            simp -dsimp -implicitDefEqProofs (maxSteps := 1000000) (disch := first | omega | (simp only [List.length_append, List.length_cons, List.length_nil]; omega) | (intros; simp only [ne_eq, reduceCtorEq, not_false_eq_true] <;> fail)) only [DL.R, Nat.reduceEqDiff, ↓reduceIte, reduceCtorEq, Int.reduceToNat, Int.reduceLE, Int.reduceLT, Nat.reduceLeDiff, Nat.reduceAdd, Nat.reduceMul, Int.reduceBNe, Int.reduceBEq, Int.cast_ofNat_Int, decide_true, decide_false, ne_eq, eq_self, implies_true, dc30_r0, dc30_r1, dc30_r2, dc30_r3, dc30_r4, dc30_r5, dc30_r6, dc30_r7, dc30_r8, dc30_r9, dc30_r10, dc30_r11, dc30_r12, dc30_r13, dc30_r14, dc30_r15, dc30, DL.dI, DL.dB, DL.dS, g0, g2, g3, g4, DL.set_lS, DL.get_lS, DL.get_ownS, DL.get_ownS0, DL.set_ownS, DL.set_ownS0, List.length_set, hil, f3, DL.wrap_id]
            have := last (who ++ [w]) u
            rw [hsn] at this
            exact this _ hW
        · have f1 : decide ((who.length : Int) + 1 ≥ n) = false := by simp; omega
          have f1' : decide (n ≤ (who.length : Int) + 1) = false := by simp; omega
          rw [f1'] at hW
          simp only [Bool.false_and, Bool.false_eq_true, if_false] at hW
          simp -dsimp -implicitDefEqProofs (maxSteps := 1000000) (disch := first | omega | (simp only [List.length_append, List.length_cons, List.length_nil]; omega) | (intros; simp only [ne_eq, reduceCtorEq, not_false_eq_true] <;> fail)) only [DL.R, Nat.reduceEqDiff, ↓reduceIte, reduceCtorEq, Int.reduceToNat, Int.reduceLE, Int.reduceLT, Nat.reduceLeDiff, Nat.reduceAdd, Nat.reduceMul, Int.reduceBNe, Int.reduceBEq, Int.cast_ofNat_Int, decide_true, decide_false, ne_eq, eq_self, implies_true, dc30_r0, dc30_r1, dc30_r2, dc30_r3, dc30_r4, dc30_r5, dc30_r6, dc30_r7, dc30_r8, dc30_r9, dc30_r10, dc30_r11, dc30_r12, dc30_r13, dc30_r14, dc30_r15, dc30, DL.dI, DL.dB, DL.dS, g0, g2, g3, g4, DL.set_lS, DL.get_lS, DL.get_ownS, DL.get_ownS0, DL.set_ownS, DL.set_ownS0, List.length_set, hil, List.length_append, Int.natCast_add, f1, DL.wrap_id]
          refine nextR (s := u) (get_lS H _ _ id hid) ?_
          simp -dsimp -implicitDefEqProofs (maxSteps := 1000000) (disch := first | omega | (simp only [List.length_append, List.length_cons, List.length_nil]; omega) | (intros; simp only [ne_eq, reduceCtorEq, not_false_eq_true] <;> fail)) only [DL.R, Nat.reduceEqDiff, ↓reduceIte, reduceCtorEq, Int.reduceToNat, Int.reduceLE, Int.reduceLT, Nat.reduceLeDiff, Nat.reduceAdd, Nat.reduceMul, Int.reduceBNe, Int.reduceBEq, Int.cast_ofNat_Int, decide_true, decide_false, ne_eq, eq_self, implies_true, dc30_r0, dc30_r1, dc30_r2, dc30_r3, dc30_r4, dc30_r5, dc30_r6, dc30_r7, dc30_r8, dc30_r9, dc30_r10, dc30_r11, dc30_r12, dc30_r13, dc30_r14, dc30_r15, dc30, DL.dI, DL.dB, DL.dS, g0, g2, g3, g4, DL.set_lS, DL.get_lS, DL.get_ownS, DL.get_ownS0, DL.set_ownS, DL.set_ownS0, List.length_set, hil, DL.wrap_id]
          refine takeR (s := u) _ (get_lS H _ _ id hid) ?_
          simp -dsimp -implicitDefEqProofs (maxSteps := 1000000) (disch := first | omega | (simp only [List.length_append, List.length_cons, List.length_nil]; omega) | (intros; simp only [ne_eq, reduceCtorEq, not_false_eq_true] <;> fail)) only [DL.R, Nat.reduceEqDiff, ↓reduceIte, reduceCtorEq, Int.reduceToNat, Int.reduceLE, Int.reduceLT, Nat.reduceLeDiff, Nat.reduceAdd, Nat.reduceMul, Int.reduceBNe, Int.reduceBEq, Int.cast_ofNat_Int, decide_true, decide_false, ne_eq, eq_self, implies_true, dc30_r0, dc30_r1, dc30_r2, dc30_r3, dc30_r4, dc30_r5, dc30_r6, dc30_r7, dc30_r8, dc30_r9, dc30_r10, dc30_r11, dc30_r12, dc30_r13, dc30_r14, dc30_r15, dc30, DL.dI, DL.dB, DL.dS, g0, g2, g3, g4, DL.set_lS, DL.get_lS, DL.get_ownS, DL.get_ownS0, DL.set_ownS, DL.set_ownS0, List.length_set, hil, DL.wrap_id]
          have hul2 := (RS.take_left (s := u) (b := u.nx == [44])).1
          rw [msr_eq hid, msr_eq hid]
          exact ⟨⟨f, u.take (u.nx == [44]), w + 1, who ++ [w], ver + 1, RS.take_ok oku, by omega, by omega, by omega, by simp; omega, hW, rfl, by rw [hsn]⟩, by omega⟩
  · have e1 : (s1.nx == [105, 110]) = false := by simp [hin]
    have h3' : rs3 s = s1 := by unfold rs3; rw [h1', if_neg hin]
    obtain ⟨s3, h3⟩ : ∃ x, s1 = x := ⟨_, rfl⟩
    have ok3 : s3.ok := h3 ▸ ok1
    rw [h3] at h3' e1 ⊢
    have hmod : rsMod s = [] := by unfold rsMod; rw [h1', if_neg hin]
    simp -dsimp -implicitDefEqProofs (maxSteps := 1000000) (disch := first | omega | (simp only [List.length_append, List.length_cons, List.length_nil]; omega) | (intros; simp only [ne_eq, reduceCtorEq, not_false_eq_true] <;> fail)) only [DL.R, Nat.reduceEqDiff, ↓reduceIte, reduceCtorEq, Int.reduceToNat, Int.reduceLE, Int.reduceLT, Nat.reduceLeDiff, Nat.reduceAdd, Nat.reduceMul, Int.reduceBNe, Int.reduceBEq, Int.cast_ofNat_Int, decide_true, decide_false, ne_eq, eq_self, implies_true, dc30_r0, dc30_r1, dc30_r2, dc30_r3, dc30_r4, dc30_r5, dc30_r6, dc30_r7, dc30_r8, dc30_r9, dc30_r10, dc30_r11, dc30_r12, dc30_r13, dc30_r14, dc30_r15, dc30, DL.dI, DL.dB, DL.dS, DL.set_lS, DL.get_lS, DL.get_ownS, DL.get_ownS0, DL.set_ownS, DL.set_ownS0, List.length_set, e1]
    refine nextR (s := s3) (get_lS H _ _ id hid) ?_
    simp -dsimp -implicitDefEqProofs (maxSteps := 1000000) (disch := first | omega | (simp only [List.length_append, List.length_cons, List.length_nil]; omega) | (intros; simp only [ne_eq, reduceCtorEq, not_false_eq_true] <;> fail)) only [DL.R, Nat.reduceEqDiff, ↓reduceIte, reduceCtorEq, Int.reduceToNat, Int.reduceLE, Int.reduceLT, Nat.reduceLeDiff, Nat.reduceAdd, Nat.reduceMul, Int.reduceBNe, Int.reduceBEq, Int.cast_ofNat_Int, decide_true, decide_false, ne_eq, eq_self, implies_true, dc30_r0, dc30_r1, dc30_r2, dc30_r3, dc30_r4, dc30_r5, dc30_r6, dc30_r7, dc30_r8, dc30_r9, dc30_r10, dc30_r11, dc30_r12, dc30_r13, dc30_r14, dc30_r15, dc30, DL.dI, DL.dB, DL.dS, DL.set_lS, DL.get_lS, DL.get_ownS, DL.get_ownS0, DL.set_ownS, DL.set_ownS0, List.length_set]
    refine takeR (s := s3) _ (get_lS H _ _ id hid) ?_
    obtain ⟨s4, h4⟩ : ∃ x, s3.take (s3.nx == [58]) = x := ⟨_, rfl⟩
    have h4' : rs4 s = s4 := by unfold rs4; rw [h3', h4]
    have ok4 : s4.ok := h4 ▸ RS.take_ok ok3
    rw [h4]
    simp -dsimp -implicitDefEqProofs (maxSteps := 1000000) (disch := first | omega | (simp only [List.length_append, List.length_cons, List.length_nil]; omega) | (intros; simp only [ne_eq, reduceCtorEq, not_false_eq_true] <;> fail)) only [DL.R, Nat.reduceEqDiff, ↓reduceIte, reduceCtorEq, Int.reduceToNat, Int.reduceLE, Int.reduceLT, Nat.reduceLeDiff, Nat.reduceAdd, Nat.reduceMul, Int.reduceBNe, Int.reduceBEq, Int.cast_ofNat_Int, decide_true, decide_false, ne_eq, eq_self, implies_true, dc30_r0, dc30_r1, dc30_r2, dc30_r3, dc30_r4, dc30_r5, dc30_r6, dc30_r7, dc30_r8, dc30_r9, dc30_r10, dc30_r11, dc30_r12, dc30_r13, dc30_r14, dc30_r15, dc30, DL.dI, DL.dB, DL.dS, DL.set_lS, DL.get_lS, DL.get_ownS, DL.get_ownS0, DL.set_ownS, DL.set_ownS0, List.length_set]
    refine numR hE (s := s4) ok4 1 8 (get_lS H _ _ id hid) ?_
    obtain ⟨s5, h5⟩ : ∃ x, s4.num 1 8 = x := ⟨_, rfl⟩
    have h5' : rs5 s = s5 := by unfold rs5; rw [h4', h5]
    have ok5 : s5.ok := h5 ▸ RS.take_ok ok4
    rw [h5]
    simp -dsimp -implicitDefEqProofs (maxSteps := 1000000) (disch := first | omega | (simp only [List.length_append, List.length_cons, List.length_nil]; omega) | (intros; simp only [ne_eq, reduceCtorEq, not_false_eq_true] <;> fail)) only [DL.R, Nat.reduceEqDiff, ↓reduceIte, reduceCtorEq, Int.reduceToNat, Int.reduceLE, Int.reduceLT, Nat.reduceLeDiff, Nat.reduceAdd, Nat.reduceMul, Int.reduceBNe, Int.reduceBEq, Int.cast_ofNat_Int, decide_true, decide_false, ne_eq, eq_self, implies_true, dc30_r0, dc30_r1, dc30_r2, dc30_r3, dc30_r4, dc30_r5, dc30_r6, dc30_r7, dc30_r8, dc30_r9, dc30_r10, dc30_r11, dc30_r12, dc30_r13, dc30_r14, dc30_r15, dc30, DL.dI, DL.dB, DL.dS, DL.set_lS, DL.get_lS, DL.get_ownS, DL.get_ownS0, DL.set_ownS, DL.set_ownS0, List.length_set]
    refine nextR (s := s5) (get_lS H _ _ id hid) ?_
    simp -dsimp -implicitDefEqProofs (maxSteps := 1000000) (disch := first | omega | (simp only [List.length_append, List.length_cons, List.length_nil]; omega) | (intros; simp only [ne_eq, reduceCtorEq, not_false_eq_true] <;> fail)) only [DL.R, Nat.reduceEqDiff, ↓reduceIte, reduceCtorEq, Int.reduceToNat, Int.reduceLE, Int.reduceLT, Nat.reduceLeDiff, Nat.reduceAdd, Nat.reduceMul, Int.reduceBNe, Int.reduceBEq, Int.cast_ofNat_Int, decide_true, decide_false, ne_eq, eq_self, implies_true, dc30_r0, dc30_r1, dc30_r2, dc30_r3, dc30_r4, dc30_r5, dc30_r6, dc30_r7, dc30_r8, dc30_r9, dc30_r10, dc30_r11, dc30_r12, dc30_r13, dc30_r14, dc30_r15, dc30, DL.dI, DL.dB, DL.dS, DL.set_lS, DL.get_lS, DL.get_ownS, DL.get_ownS0, DL.set_ownS, DL.set_ownS0, List.length_set]
    refine takeR (s := s5) _ (get_lS H _ _ id hid) ?_
    obtain ⟨s6, h6⟩ : ∃ x, s5.take (s5.nx == [111, 102]) = x := ⟨_, rfl⟩
    have h6' : rs6 s = s6 := by unfold rs6; rw [h5', h6]
    have ok6 : s6.ok := h6 ▸ RS.take_ok ok5
    rw [h6]
    obtain ⟨n, hn⟩ : ∃ n, numT s4.nx = n := ⟨_, rfl⟩
    have hnb : -1000000000000000000 ≤ n ∧ n ≤ 1000000000000000000 := hn ▸ numT_bound (RS.nx_len ok4)
    have hwho : rsWho s = whoF (s6.left + 1) s6 0 n [] := by unfold rsWho; rw [h6', h4', hn]
    have hleft6 : s6.left ≤ 8193 := by unfold RS.left; have := ok6.1; split <;> omega
    rw [hn]
    have last : ∀ (who : List Int) (t : RS) (Gs : List O), rsWho s = (who, t) → Fin (.agg [dS (str (s.got (isWhat kindsL s.nx))), dS (str []), dI n, .sl (ints who)]) (H.set id (rsO e t) ++ Gs) := by
      intro who t Gs hw
      rw [← hfin]
      have hro : ruleOf s = ⟨str (s.got (isWhat kindsL s.nx)), str [], n, who⟩ := by unfold ruleOf; rw [hmod, h4', hn, hw]
      have hro' : ruleD (ruleOf s) = .agg [dS (str (s.got (isWhat kindsL s.nx))), dS (str []), dI n, .sl (ints who)] := by rw [hro]; rfl
      refine ⟨rsO e t, Gs, ruleD (ruleOf s), rs_below _ _ _, rfl, by rw [hro']; exact Deep.refl _ _, by rw [hro']; simp [below_agg, below_sl, below_lit, ints, D.leaves], ?_⟩
      rw [hw] at hQ; exact hQ
    simp -dsimp -implicitDefEqProofs (maxSteps := 1000000) (disch := first | omega | (simp only [List.length_append, List.length_cons, List.length_nil]; omega) | (intros; simp only [ne_eq, reduceCtorEq, not_false_eq_true] <;> fail)) only [DL.R, Nat.reduceEqDiff, ↓reduceIte, reduceCtorEq, Int.reduceToNat, Int.reduceLE, Int.reduceLT, Nat.reduceLeDiff, Nat.reduceAdd, Nat.reduceMul, Int.reduceBNe, Int.reduceBEq, Int.cast_ofNat_Int, decide_true, decide_false, ne_eq, eq_self, implies_true, dc30_r0, dc30_r1, dc30_r2, dc30_r3, dc30_r4, dc30_r5, dc30_r6, dc30_r7, dc30_r8, dc30_r9, dc30_r10, dc30_r11, dc30_r12, dc30_r13, dc30_r14, dc30_r15, dc30, DL.dI, DL.dB, DL.dS, DL.set_lS, DL.get_lS, DL.get_ownS, DL.get_ownS0, DL.set_ownS, DL.set_ownS0, List.length_set]
    refine loop_i (fun s' H' => s' 0 = .ptr id 0 ∧ s' 2 = .ptr H.length 0 ∧ s' 3 = .ptr (H.length + 1) 0 ∧ ∃ (f : Nat) (t : RS) (least : Int) (who : List Int) (ver : Nat), t.ok ∧ -1000000000000000000 ≤ least ∧ least ≤ 1000000000000000001 ∧ t.left < f ∧ who.length + t.left ≤ 8193 ∧
        rsWho s = whoF f t least n who ∧ s' 4 = dI least ∧ H' = H.set id (rsO e t) ++ [.box 42 [.lit (.string (str [])), .lit (.string (str [])), .lit (.int .i64 0), .lit (.slice none 0 0)], .box 42 [dS (str (s.got (isWhat kindsL s.nx))), dS (str []), dI n, .row (H.length + 2) ver], .row true ver 3 1 (ints who)])
      (fun _ H' => msr id H') ?_ ?_
    · simp -dsimp -implicitDefEqProofs (maxSteps := 1000000) (disch := first | omega | (simp only [List.length_append, List.length_cons, List.length_nil]; omega) | (intros; simp only [ne_eq, reduceCtorEq, not_false_eq_true] <;> fail)) only [DL.R, Nat.reduceEqDiff, ↓reduceIte, reduceCtorEq, Int.reduceToNat, Int.reduceLE, Int.reduceLT, Nat.reduceLeDiff, Nat.reduceAdd, Nat.reduceMul, Int.reduceBNe, Int.reduceBEq, Int.cast_ofNat_Int, decide_true, decide_false, ne_eq, eq_self, implies_true, DL.dI, DL.dB, DL.dS]
      exact ⟨s6.left + 1, s6, 0, [], 0, ok6, by omega, by omega, by omega, by simpa using hleft6, hwho, rfl, rfl⟩
    · rintro s' H' ⟨g0, g2, g3, f, t, least, who, ver, okt, hl0, hl1, hf, hwl, hW, g4, rfl⟩
      obtain ⟨f, rfl⟩ : ∃ m, f = m + 1 := ⟨f - 1, by omega⟩
      rw [whoF] at hW
      have hil : (ints who).length = who.length := by simp [ints]
      by_cases hb : t.bad = true
      · rw [if_pos hb] at hW
        simp -dsimp -implicitDefEqProofs (maxSteps := 1000000) (disch := first | omega | (simp only [List.length_append, List.length_cons, List.length_nil]; omega) | (intros; simp only [ne_eq, reduceCtorEq, not_false_eq_true] <;> fail)) only [DL.R, Nat.reduceEqDiff, ↓reduceIte, reduceCtorEq, Int.reduceToNat, Int.reduceLE, Int.reduceLT, Nat.reduceLeDiff, Nat.reduceAdd, Nat.reduceMul, Int.reduceBNe, Int.reduceBEq, Int.cast_ofNat_Int, decide_true, decide_false, ne_eq, eq_self, implies_true, dc30_r0, dc30_r1, dc30_r2, dc30_r3, dc30_r4, dc30_r5, dc30_r6, dc30_r7, dc30_r8, dc30_r9, dc30_r10, dc30_r11, dc30_r12, dc30_r13, dc30_r14, dc30_r15, dc30, DL.dI, DL.dB, DL.dS, g0, g2, g3, g4, DL.set_lS, DL.get_lS, DL.get_ownS, DL.get_ownS0, DL.set_ownS, DL.set_ownS0, List.length_set, onBox_rs, hb]
        exact last who t _ hW
      · rw [if_neg hb] at hW
        have hb' : t.bad = false := by simpa using hb
        simp -dsimp -implicitDefEqProofs (maxSteps := 1000000) (disch := first | omega | (simp only [List.length_append, List.length_cons, List.length_nil]; omega) | (intros; simp only [ne_eq, reduceCtorEq, not_false_eq_true] <;> fail)) only [DL.R, Nat.reduceEqDiff, ↓reduceIte, reduceCtorEq, Int.reduceToNat, Int.reduceLE, Int.reduceLT, Nat.reduceLeDiff, Nat.reduceAdd, Nat.reduceMul, Int.reduceBNe, Int.reduceBEq, Int.cast_ofNat_Int, decide_true, decide_false, ne_eq, eq_self, implies_true, dc30_r0, dc30_r1, dc30_r2, dc30_r3, dc30_r4, dc30_r5, dc30_r6, dc30_r7, dc30_r8, dc30_r9, dc30_r10, dc30_r11, dc30_r12, dc30_r13, dc30_r14, dc30_r15, dc30, DL.dI, DL.dB, DL.dS, g0, g2, g3, g4, DL.set_lS, DL.get_lS, DL.get_ownS, DL.get_ownS0, DL.set_ownS, DL.set_ownS0, List.length_set, onBox_rs, hb']
        refine numR hE (s := t) okt least 7 (get_lS H _ _ id hid) ?_
        obtain ⟨u, hu⟩ : ∃ x, t.num least 7 = x := ⟨_, rfl⟩
        have oku : u.ok := hu ▸ RS.take_ok okt
        obtain ⟨w, hw⟩ : ∃ w, numT t.nx = w := ⟨_, rfl⟩
        have hwb : -1000000000000000000 ≤ w ∧ w ≤ 1000000000000000000 := hw ▸ numT_bound (RS.nx_len okt)
        have hul : u.left < t.left := hu ▸ (RS.take_left.2 hb')
        have hsn : ints (who ++ [w]) = ints who ++ [dI w] := ints_snoc _ _
        have hlw : ((who ++ [w]).length : Int) = (who.length : Int) + 1 := by simp
        rw [hu, hw] at hW ⊢
        rw [hlw] at hW
        simp -dsimp -implicitDefEqProofs (maxSteps := 1000000) (disch := first | omega | (simp only [List.length_append, List.length_cons, List.length_nil]; omega) | (intros; simp only [ne_eq, reduceCtorEq, not_false_eq_true] <;> fail)) only [DL.R, Nat.reduceEqDiff, ↓reduceIte, reduceCtorEq, Int.reduceToNat, Int.reduceLE, Int.reduceLT, Nat.reduceLeDiff, Nat.reduceAdd, Nat.reduceMul, Int.reduceBNe, Int.reduceBEq, Int.cast_ofNat_Int, decide_true, decide_false, ne_eq, eq_self, implies_true, dc30_r0, dc30_r1, dc30_r2, dc30_r3, dc30_r4, dc30_r5, dc30_r6, dc30_r7, dc30_r8, dc30_r9, dc30_r10, dc30_r11, dc30_r12, dc30_r13, dc30_r14, dc30_r15, dc30, DL.dI, DL.dB, DL.dS, g0, g2, g3, g4, DL.set_lS, DL.get_lS, DL.get_ownS, DL.get_ownS0, DL.set_ownS, DL.set_ownS0, List.length_set, hil]
        refine ⟨by omega, ?_⟩
        have hle : ((ints who ++ [D.lit (.int .i64 w)]).length : Int) = (who.length : Int) + 1 := by simp [ints]
        have hlen2 : ((who.length + 1 : Nat) : Int) = (who.length : Int) + 1 := by simp
        by_cases c1 : n ≤ (who.length : Int) + 1
        · have f1 : decide ((who.length : Int) + 1 ≥ n) = true := by simp; omega
          have f1' : decide (n ≤ (who.length : Int) + 1) = true := by simp; omega
          simp -dsimp -implicitDefEqProofs (maxSteps := 1000000) (disch := first | omega | (simp only [List.length_append, List.length_cons, List.length_nil]; omega) | (intros; simp only [ne_eq, reduceCtorEq, not_false_eq_true] <;> fail)) only [DL.R, Nat.reduceEqDiff, ↓reduceIte, reduceCtorEq, Int.reduceToNat, Int.reduceLE, Int.reduceLT, Nat.reduceLeDiff, Nat.reduceAdd, Nat.reduceMul, Int.reduceBNe, Int.reduceBEq, Int.cast_ofNat_Int, decide_true, decide_false, ne_eq, eq_self, implies_true, dc30_r0, dc30_r1, dc30_r2, dc30_r3, dc30_r4, dc30_r5, dc30_r6, dc30_r7, dc30_r8, dc30_r9, dc30_r10, dc30_r11, dc30_r12, dc30_r13, dc30_r14, dc30_r15, dc30, DL.dI, DL.dB, DL.dS, g0, g2, g3, g4, DL.set_lS, DL.get_lS, DL.get_ownS, DL.get_ownS0, DL.set_ownS, DL.set_ownS0, List.length_set, hil, List.length_append, Int.natCast_add, f1, DL.wrap_id]
          refine nextR (s := u) (get_lS H _ _ id hid) ?_
          by_cases c2 : u.nx = [44]
          · have f2 : (u.nx != [44]) = false := by simp [c2]
            have f3 : (u.nx == [44]) = true := by simp [c2]
            rw [f1', f2, f3] at hW
            simp only [Bool.and_false, Bool.false_eq_true, if_false] at hW
            simp -dsimp -implicitDefEqProofs (maxSteps := 1000000) (disch := first | omega | (simp only [List.length_append, List.length_cons, List.length_nil]; omega) | (intros; simp only [ne_eq, reduceCtorEq, not_false_eq_true] <;> fail)) only [DL.R, Nat.reduceEqDiff, ↓reduceIte, reduceCtorEq, Int.reduceToNat, Int.reduceLE, Int.reduceLT, Nat.reduceLeDiff, Nat.reduceAdd, Nat.reduceMul, Int.reduceBNe, Int.reduceBEq, Int.cast_ofNat_Int, decide_true, decide_false, ne_eq, eq_self, implies_true, dc30_r0, dc30_r1, dc30_r2, dc30_r3, dc30_r4, dc30_r5, dc30_r6, dc30_r7, dc30_r8, dc30_r9, dc30_r10, dc30_r11, dc30_r12, dc30_r13, dc30_r14, dc30_r15, dc30, DL.dI, DL.dB, DL.dS, g0, g2, g3, g4, DL.set_lS, DL.get_lS, DL.get_ownS, DL.get_ownS0, DL.set_ownS, DL.set_ownS0, List.length_set, hil, f3, DL.wrap_id]
            refine nextR (s := u) (get_lS H _ _ id hid) ?_
            simp -dsimp -implicitDefEqProofs (maxSteps := 1000000) (disch := first | omega | (simp only [List.length_append, List.length_cons, List.length_nil]; omega) | (intros; simp only [ne_eq, reduceCtorEq, not_false_eq_true] <;> fail)) only [DL.R, Nat.reduceEqDiff, ↓reduceIte, reduceCtorEq, Int.reduceToNat, Int.reduceLE, Int.reduceLT, Nat.reduceLeDiff, Nat.reduceAdd, Nat.reduceMul, Int.reduceBNe, Int.reduceBEq, Int.cast_ofNat_Int, decide_true, decide_false, ne_eq, eq_self, implies_true, dc30_r0, dc30_r1, dc30_r2, dc30_r3, dc30_r4, dc30_r5, dc30_r6, dc30_r7, dc30_r8, dc30_r9, dc30_r10, dc30_r11, dc30_r12, dc30_r13, dc30_r14, dc30_r15, dc30, DL.dI, DL.dB, DL.dS, g0, g2, g3, g4, DL.set_lS, DL.get_lS, DL.get_ownS, DL.get_ownS0, DL.set_ownS, DL.set_ownS0, List.length_set, hil, f3, DL.wrap_id]
            refine takeR (s := u) _ (get_lS H _ _ id hid) ?_
            simp -dsimp -implicitDefEqProofs (maxSteps := 1000000) (disch := first | omega | (simp only [List.length_append, List.length_cons, List.length_nil]; omega) | (intros; simp only [ne_eq, reduceCtorEq, not_false_eq_true] <;> fail)) only [DL.R, Nat.reduceEqDiff, ↓reduceIte, reduceCtorEq, Int.reduceToNat, Int.reduceLE, Int.reduceLT, Nat.reduceLeDiff, Nat.reduceAdd, Nat.reduceMul, Int.reduceBNe, Int.reduceBEq, Int.cast_ofNat_Int, decide_true, decide_false, ne_eq, eq_self, implies_true, dc30_r0, dc30_r1, dc30_r2, dc30_r3, dc30_r4, dc30_r5, dc30_r6, dc30_r7, dc30_r8, dc30_r9, dc30_r10, dc30_r11, dc30_r12, dc30_r13, dc30_r14, dc30_r15, dc30, DL.dI, DL.dB, DL.dS, g0, g2, g3, g4, DL.set_lS, DL.get_lS, DL.get_ownS, DL.get_ownS0, DL.set_ownS, DL.set_ownS0, List.length_set, hil, DL.wrap_id]
            have hul2 := (RS.take_left (s := u) (b := true)).1
            rw [msr_eq hid, msr_eq hid]
            exact ⟨⟨f, u.take true, w + 1, who ++ [w], ver + 1, RS.take_ok oku, by omega, by omega, by omega, by simp; omega, hW, rfl, by rw [hsn]⟩, by omega⟩
          · have f2 : (u.nx != [44]) = true := by simp [c2]
            have f3 : (u.nx == [44]) = false := by simp [c2]
            rw [f1', f2] at hW
            simp only [Bool.and_true, if_true] at hW
            simp -dsimp -implicitDefEqProofs (maxSteps := 1000000) (disch := first | omega | (simp only [List.length_append, List.length_cons, List.length_nil]; omega) | (intros; simp only [ne_eq, reduceCtorEq, not_false_eq_true] <;> fail)) only [DL.R, Nat.reduceEqDiff, ↓reduceIte, reduceCtorEq, Int.reduceToNat, Int.reduceLE, Int.reduceLT, Nat.reduceLeDiff, Nat.reduceAdd, Nat.reduceMul, Int.reduceBNe, Int.reduceBEq, Int.cast_ofNat_Int, decide_true, decide_false, ne_eq, eq_self, implies_true, dc30_r0, dc30_r1, dc30_r2, dc30_r3, dc30_r4, dc30_r5, dc30_r6, dc30_r7, dc30_r8, dc30_r9, dc30_r10, dc30_r11, dc30_r12, dc30_r13, dc30_r14, dc30_r15, dc30, DL.dI, DL.dB, DL.dS, g0, g2, g3, g4, DL.set_lS, DL.get_lS, DL.get_ownS, DL.get_ownS0, DL.set_ownS, DL.set_ownS0, List.length_set, hil, f3, DL.wrap_id]
            have := last (who ++ [w]) u
            rw [hsn] at this
            exact this _ hW
        · have f1 : decide ((who.length : Int) + 1 ≥ n) = false := by simp; omega
          have f1' : decide (n ≤ (who.length : Int) + 1) = false := by simp; omega
          rw [f1'] at hW
          simp only [Bool.false_and, Bool.false_eq_true, if_false] at hW
          simp -dsimp -implicitDefEqProofs (maxSteps := 1000000) (disch := first | omega | (simp only [List.length_append, List.length_cons, List.length_nil]; omega) | (intros; simp only [ne_eq, reduceCtorEq, not_false_eq_true] <;> fail)) only [DL.R, Nat.reduceEqDiff, ↓reduceIte, reduceCtorEq, Int.reduceToNat, Int.reduceLE, Int.reduceLT, Nat.reduceLeDiff, Nat.reduceAdd, Nat.reduceMul, Int.reduceBNe, Int.reduceBEq, Int.cast_ofNat_Int, decide_true, decide_false, ne_eq, eq_self, implies_true, dc30_r0, dc30_r1, dc30_r2, dc30_r3, dc30_r4, dc30_r5, dc30_r6, dc30_r7, dc30_r8, dc30_r9, dc30_r10, dc30_r11, dc30_r12, dc30_r13, dc30_r14, dc30_r15, dc30, DL.dI, DL.dB, DL.dS, g0, g2, g3, g4, DL.set_lS, DL.get_lS, DL.get_ownS, DL.get_ownS0, DL.set_ownS, DL.set_ownS0, List.length_set, hil, List.length_append, Int.natCast_add, f1, DL.wrap_id]
          refine nextR (s := u) (get_lS H _ _ id hid) ?_
          simp -dsimp -implicitDefEqProofs (maxSteps := 1000000) (disch := first | omega | (simp only [List.length_append, List.length_cons, List.length_nil]; omega) | (intros; simp only [ne_eq, reduceCtorEq, not_false_eq_true] <;> fail)) only [DL.R, Nat.reduceEqDiff, ↓reduceIte, reduceCtorEq, Int.reduceToNat, Int.reduceLE, Int.reduceLT, Nat.reduceLeDiff, Nat.reduceAdd, Nat.reduceMul, Int.reduceBNe, Int.reduceBEq, Int.cast_ofNat_Int, decide_true, decide_false, ne_eq, eq_self, implies_true, dc30_r0, dc30_r1, dc30_r2, dc30_r3, dc30_r4, dc30_r5, dc30_r6, dc30_r7, dc30_r8, dc30_r9, dc30_r10, dc30_r11, dc30_r12, dc30_r13, dc30_r14, dc30_r15, dc30, DL.dI, DL.dB, DL.dS, g0, g2, g3, g4, DL.set_lS, DL.get_lS, DL.get_ownS, DL.get_ownS0, DL.set_ownS, DL.set_ownS0, List.length_set, hil, DL.wrap_id]
          refine takeR (s := u) _ (get_lS H _ _ id hid) ?_
          simp -dsimp -implicitDefEqProofs (maxSteps := 1000000) (disch := first | omega | (simp only [List.length_append, List.length_cons, List.length_nil]; omega) | (intros; simp only [ne_eq, reduceCtorEq, not_false_eq_true] <;> fail)) only [DL.R, Nat.reduceEqDiff, ↓reduceIte, reduceCtorEq, Int.reduceToNat, Int.reduceLE, Int.reduceLT, Nat.reduceLeDiff, Nat.reduceAdd, Nat.reduceMul, Int.reduceBNe, Int.reduceBEq, Int.cast_ofNat_Int, decide_true, decide_false, ne_eq, eq_self, implies_true, dc30_r0, dc30_r1, dc30_r2, dc30_r3, dc30_r4, dc30_r5, dc30_r6, dc30_r7, dc30_r8, dc30_r9, dc30_r10, dc30_r11, dc30_r12, dc30_r13, dc30_r14, dc30_r15, dc30, DL.dI, DL.dB, DL.dS, g0, g2, g3, g4, DL.set_lS, DL.get_lS, DL.get_ownS, DL.get_ownS0, DL.set_ownS, DL.set_ownS0, List.length_set, hil, DL.wrap_id]
          have hul2 := (RS.take_left (s := u) (b := u.nx == [44])).1
          rw [msr_eq hid, msr_eq hid]
          exact ⟨⟨f, u.take (u.nx == [44]), w + 1, who ++ [w], ver + 1, RS.take_ok oku, by omega, by omega, by omega, by simp; omega, hW, rfl, by rw [hsn]⟩, by omega⟩
end Go.Proofs.Tryd
set_option maxRecDepth 100000
set_option linter.unusedSimpArgs false
set_option linter.unusedVariables false
namespace Go.Proofs.Tryd
open Go Go.DL
variable {G : Nat → D} {H : List O} {Q : D → List O → Prop}
def RS.suf (t s : RS) : Prop := t.l.length ≤ s.l.length ∧ t.l = s.l.drop (s.l.length - t.l.length)
theorem RS.suf_refl (s : RS) : s.suf s := ⟨Nat.le_refl _, by simp⟩
theorem RS.suf_trans {a b c : RS} (h : a.suf b) (k : b.suf c) : a.suf c := by
  obtain ⟨h1, h2⟩ := h
  obtain ⟨k1, k2⟩ := k
  refine ⟨by omega, ?_⟩
  rw [h2, k2, List.drop_drop]
  simp only [List.length_drop]
  congr 1; omega
theorem RS.suf_take {s : RS} {b : Bool} : (s.take b).suf s := by
  unfold RS.take
  split
  · exact ⟨Nat.le_refl _, by simp⟩
  · refine ⟨by simp, ?_⟩
    cases h : s.l with
    | nil => simp
    | cons t l => simp
theorem whoF_ok : ∀ (f : Nat) (s : RS) (least n : Int) (who : List Int), s.ok → (whoF f s least n who).2.ok ∧ (whoF f s least n who).2.left ≤ s.left ∧ (whoF f s least n who).2.suf s
  | 0, s, _, _, who, h => ⟨h, Nat.le_refl _, RS.suf_refl s⟩
  | f + 1, s, least, n, who, h => by
    rw [whoF]
    have h1 : (s.num least 7).ok := RS.take_ok h
    have h2 : (s.num least 7).left ≤ s.left := RS.take_left.1
    have h3 : (s.num least 7).suf s := RS.suf_take
    split
    · exact ⟨h, Nat.le_refl _, RS.suf_refl s⟩
    · split
      · exact ⟨h1, h2, h3⟩
      · obtain ⟨k1, k2, k3⟩ := whoF_ok f ((s.num least 7).take ((s.num least 7).nx == [44])) (numT s.nx + 1) n (who ++ [numT s.nx]) (RS.take_ok h1)
        have h4 := (RS.take_left (s := s.num least 7) (b := (s.num least 7).nx == [44])).1
        exact ⟨k1, by omega, RS.suf_trans (RS.suf_trans k3 RS.suf_take) h3⟩
theorem rs3_ok {s : RS} (h : s.ok) : (rs3 s).ok ∧ (rs3 s).left ≤ (rs1 s).left ∧ (rs3 s).suf (rs1 s) := by
  have h1 : (rs1 s).ok := RS.take_ok h
  unfold rs3
  split
  · have h2 : (rs2 s).ok := RS.take_ok h1
    have l2 : (rs2 s).left ≤ (rs1 s).left := RS.take_left.1
    have l3 := (RS.take_left (s := rs2 s) (b := isWord kwL (rs2 s).nx)).1
    exact ⟨RS.take_ok h2, by omega, RS.suf_trans RS.suf_take RS.suf_take⟩
  · exact ⟨h1, Nat.le_refl _, RS.suf_refl _⟩
theorem rsWho_ok {s : RS} (h : s.ok) : (rsWho s).2.ok ∧ (s.bad = false → (rsWho s).2.left < s.left) ∧ (rsWho s).2.suf s := by
  obtain ⟨h3, l3, f3⟩ := rs3_ok h
  have l1 : s.bad = false → (rs1 s).left < s.left := RS.take_left.2
  have f1 : (rs1 s).suf s := RS.suf_take
  have h4 : (rs4 s).ok := RS.take_ok h3
  have l4 : (rs4 s).left ≤ (rs3 s).left := RS.take_left.1
  have f4 : (rs4 s).suf (rs3 s) := RS.suf_take
  have h5 : (rs5 s).ok := RS.take_ok h4
  have l5 : (rs5 s).left ≤ (rs4 s).left := RS.take_left.1
  have f5 : (rs5 s).suf (rs4 s) := RS.suf_take
  have h6 : (rs6 s).ok := RS.take_ok h5
  have l6 : (rs6 s).left ≤ (rs5 s).left := RS.take_left.1
  have f6 : (rs6 s).suf (rs5 s) := RS.suf_take
  obtain ⟨k1, k2, k3⟩ := whoF_ok ((rs6 s).left + 1) (rs6 s) 0 (numT (rs4 s).nx) [] h6
  unfold rsWho
  exact ⟨k1, fun hb => by have := l1 hb; omega, RS.suf_trans (RS.suf_trans (RS.suf_trans (RS.suf_trans (RS.suf_trans k3 f6) f5) f4) f3) f1⟩
def parseF : Nat → RS → List Rule → List Rule × RS
  | 0, s, out => (out, s)
  | f + 1, s, out => if s.bad || s.l.length == 0 then (out, s) else if out.length = 64 then (out, ⟨s.l, true⟩) else parseF f (rsWho s).2 (out ++ [ruleOf s])
def offs : List Tok → Nat
  | [] => 0
  | t :: l => t.before.length + t.text.length + offs l
def parseEnd (n : Nat) (ts : List Tok) (r : List Rule × RS) : List Rule × Int :=
  if r.2.bad = false then (r.1, -1) else match r.2.l with
  | [] => ([], (n : Int))
  | t :: _ => ([], ((offs (ts.take (ts.length - r.2.l.length)) + t.before.length : Nat) : Int))
def parseP (l : List UInt8) : List Rule × Int :=
  if (scan l).2.2 ≠ -1 then ([], (scan l).2.2) else parseEnd l.length (scan l).1 (parseF (RS.left ⟨(scan l).1, false⟩ + 1) ⟨(scan l).1, false⟩ [])
def parseD (x : List Rule × Int) : D := .tup [.sl (rulesD x.1), dI x.2]
theorem scanN_ok : ∀ (n : Nat) (r : List UInt8) (p : Nat) (acc : List Tok), (∀ t ∈ acc, t.text.length ≤ 16 ∧ t.text ≠ []) → acc.length ≤ p → (scanN n r p acc).1.length ≤ p + r.length ∧ (∀ t ∈ (scanN n r p acc).1, t.text.length ≤ 16 ∧ t.text ≠ []) ∧ offs (scanN n r p acc).1 ≤ offs acc + r.length
  | 0, r, p, acc, h, hl => by simp [scanN, offs]
  | n + 1, r, p, acc, h, hl => by
    rw [scanN]
    split
    · exact ⟨by simp; omega, h, by simp⟩
    · rename_i h1
      split
      · exact ⟨by simp, by simp, by simp [offs]⟩
      · rename_i h2
        obtain ⟨b, r', hb⟩ : ∃ b r', r.drop (bl false r) = b :: r' := by
          cases hh : r.drop (bl false r) with
          | nil => exact absurd hh h1
          | cons b r' => exact ⟨b, r', rfl⟩
        have hle := tok_le b r'
        rw [← hb, List.length_drop] at hle
        have hble := bl_le false r
        have h16 : tok (r.drop (bl false r)) ≤ 16 := by
          rw [hb]
          have hsh : ∀ n, short n ≤ 16 := fun n => by unfold short; split <;> omega
          simp only [tok]
          split
          · exact hsh _
          · split
            · exact hsh _
            · cases hf : signsL.find? fun x => Lib.hasPrefix (b :: r') x with
              | none => simp
              | some x =>
                have := List.mem_of_find?_eq_some hf
                simp only [signsL, List.mem_cons, List.not_mem_nil, or_false] at this
                rcases this with rfl | rfl | rfl | rfl | rfl | rfl | rfl | rfl | rfl | rfl | rfl | rfl | rfl | rfl | rfl | rfl | rfl | rfl <;> simp
        have hoff : ∀ (a : List Tok) (t : Tok), offs (a ++ [t]) = offs a + (t.before.length + t.text.length) := by
          intro a t
          induction a with
          | nil => simp [offs]
          | cons x a ih => simp [offs, ih]; omega
        obtain ⟨i1, i2, i3⟩ := scanN_ok n ((r.drop (bl false r)).drop (tok (r.drop (bl false r)))) (p + bl false r + tok (r.drop (bl false r))) (acc ++ [⟨(r.drop (bl false r)).take (tok (r.drop (bl false r))), r.take (bl false r)⟩]) (by
          intro t ht
          rcases List.mem_append.1 ht with q | q
          · exact h t q
          · simp only [List.mem_singleton] at q
            subst q
            refine ⟨by simp; omega, ?_⟩
            intro q
            have := congrArg List.length q
            simp at this; omega) (by simp; omega)
        refine ⟨by simp at i1 ⊢; omega, i2, ?_⟩
        rw [hoff] at i3
        simp at i3 ⊢; omega
theorem scan_ok (l : List UInt8) : (scan l).1.length ≤ 8192 ∧ (∀ t ∈ (scan l).1, t.text.length ≤ 16 ∧ t.text ≠ []) ∧ offs (scan l).1 ≤ 8192 := by
  unfold scan
  split
  · simp [offs]
  · obtain ⟨h1, h2, h3⟩ := scanN_ok (l.length + 1) l 0 [] (by simp) (by simp)
    exact ⟨by omega, h2, by simp [offs] at h3; omega⟩
theorem offs_snoc (a : List Tok) (t : Tok) : offs (a ++ [t]) = offs a + (t.before.length + t.text.length) := by
  induction a with
  | nil => simp [offs]
  | cons x a ih => simp [offs, ih]; omega
theorem offs_take (a : List Tok) (n : Nat) : offs (a.take n) ≤ offs a := by
  induction a generalizing n with
  | nil => simp [offs]
  | cons x a ih =>
    cases n with
    | zero => simp [offs]
    | succ n => have := ih n; simp [offs]; omega
theorem parse_spec (hE : Env G) (l : List UInt8) (hl : l.length ≤ 1099511627776) (hQ : Q (parseD (parseP l)) H) : CallA Tryd.prog G 14 [dS (str l)] H Q := by
  refine CallA.deep (s14 (Nat.le_of_ble_eq_true rfl) ?_)
  have hbel : ∀ x, Below H.length (parseD x) := fun x => by
    simp [parseD, below_tup, below_lit]; exact below_rules _ _
  have fin : ∀ (Gs : List O) (d : D), Deep (H ++ DL.frzAll Gs) d (parseD (parseP l)) → ∃ Gs_1 d', H ++ Gs = H ++ Gs_1 ∧ Deep (H ++ DL.frzAll Gs_1) d d' ∧ Below H.length d' ∧ Q d' H := fun Gs d hd => ⟨Gs, _, rfl, hd, hbel _, hQ⟩
  simp -dsimp -implicitDefEqProofs (maxSteps := 1000000) (disch := first | omega | (simp only [List.length_append, List.length_cons, List.length_nil]; omega) | (intros; simp only [ne_eq, reduceCtorEq, not_false_eq_true] <;> fail)) only [DL.R, Nat.reduceEqDiff, ↓reduceIte, reduceCtorEq, Int.reduceToNat, Int.reduceLE, Int.reduceLT, Nat.reduceLeDiff, Nat.reduceAdd, Nat.reduceMul, Int.reduceBNe, Int.reduceBEq, Int.cast_ofNat_Int, decide_true, decide_false, ne_eq, eq_self, implies_true, dc14_r0, dc14_r1, dc14_r2, dc14_r3, dc14_r4, dc14_r5, dc14_r6, dc14_r7, dc14_r8, dc14_r9, dc14_r10, dc14_r11, dc14_r12, dc14_r13, dc14_r14, dc14_r15, dc14_r16, dc14_r17, dc14_r18, dc14_r19, dc14_r20, dc14, DL.dI, DL.dB, DL.dS]
  refine scan_spec hE l hl ?_
  obtain ⟨k1, k2, k3⟩ := scan_ok l
  obtain ⟨ts, rest, p, hsc⟩ : ∃ ts rest p, scan l = (ts, rest, p) := ⟨_, _, _, rfl⟩
  have hP : parseP l = if p ≠ -1 then ([], p) else parseEnd l.length ts (parseF (RS.left ⟨ts, false⟩ + 1) ⟨ts, false⟩ []) := by unfold parseP; rw [hsc]
  rw [hsc] at k1 k2 k3 ⊢
  simp only at k1 k2 k3
  unfold scanD
  by_cases c0 : p = -1
  · have e0 : (p != -1) = false := by simp [c0]
    rw [if_neg (by simp [c0])] at hP
    simp -dsimp -implicitDefEqProofs (maxSteps := 1000000) (disch := first | omega | (simp only [List.length_append, List.length_cons, List.length_nil]; omega) | (intros; simp only [ne_eq, reduceCtorEq, not_false_eq_true] <;> fail)) only [DL.R, Nat.reduceEqDiff, ↓reduceIte, reduceCtorEq, Int.reduceToNat, Int.reduceLE, Int.reduceLT, Nat.reduceLeDiff, Nat.reduceAdd, Nat.reduceMul, Int.reduceBNe, Int.reduceBEq, Int.cast_ofNat_Int, decide_true, decide_false, ne_eq, eq_self, implies_true, dc14_r0, dc14_r1, dc14_r2, dc14_r3, dc14_r4, dc14_r5, dc14_r6, dc14_r7, dc14_r8, dc14_r9, dc14_r10, dc14_r11, dc14_r12, dc14_r13, dc14_r14, dc14_r15, dc14_r16, dc14_r17, dc14_r18, dc14_r19, dc14_r20, dc14, DL.dI, DL.dB, DL.dS, e0]
    refine ⟨by omega, ?_⟩
    obtain ⟨r, hr⟩ : ∃ r, parseF (RS.left ⟨ts, false⟩ + 1) ⟨ts, false⟩ [] = r := ⟨_, rfl⟩
    rw [hr] at hP
    refine loop_i (fun s' H' => s' 0 = dS (str l) ∧ s' 4 = .sl (toksD ts) ∧ s' 7 = .ptr H.length 0 ∧ ∃ (f : Nat) (s : RS) (out : List Rule) (ver : Nat), s.ok ∧ RS.suf s ⟨ts, false⟩ ∧ s.left < f ∧ out.length ≤ 64 ∧ r = parseF f s out ∧ s' 8 = .row (H.length + 1) ver ∧ H' = H ++ [rsO 60 s, .row true ver 42 4 (rulesD out)])
      (fun _ H' => msr H.length H') ?_ ?_
    · simp -dsimp -implicitDefEqProofs (maxSteps := 1000000) (disch := first | omega | (simp only [List.length_append, List.length_cons, List.length_nil]; omega) | (intros; simp only [ne_eq, reduceCtorEq, not_false_eq_true] <;> fail)) only [DL.R, Nat.reduceEqDiff, ↓reduceIte, reduceCtorEq, Int.reduceToNat, Int.reduceLE, Int.reduceLT, Nat.reduceLeDiff, Nat.reduceAdd, Nat.reduceMul, Int.reduceBNe, Int.reduceBEq, Int.cast_ofNat_Int, decide_true, decide_false, ne_eq, eq_self, implies_true, DL.dI, DL.dB, DL.dS]
      exact ⟨RS.left ⟨ts, false⟩ + 1, ⟨ts, false⟩, [], 0, ⟨k1, fun t ht => (k2 t ht).1⟩, RS.suf_refl _, by omega, by simp, hr.symm, rfl, rfl⟩
    · rintro s' H' ⟨g0, g4, g7, f, s, out, ver, hs, hsuf, hf, ho, hF, g8, rfl⟩
      obtain ⟨f, rfl⟩ : ∃ m, f = m + 1 := ⟨f - 1, by omega⟩
      rw [parseF] at hF
      have hlen : (rulesD out).length = out.length := rules_len out
      have htl : (toksD s.l).length = s.l.length := by simp [toksD]
      have htl2 : (toksD ts).length = ts.length := by simp [toksD]
      have ht2 : ∀ y ∈ toksD ts, y.leaves.length = 2 := by
        intro y hy; obtain ⟨t, _, rfl⟩ := List.mem_map.1 hy; rfl
      by_cases hb : s.bad = true
      · rw [if_pos (by simp [hb])] at hF
        cases hsl2 : s.l with
        | nil =>
          have hz : parseP l = ([], (l.length : Int)) := by rw [hP, hF]; simp [parseEnd, hb, hsl2]
          simp -dsimp -implicitDefEqProofs (maxSteps := 1000000) (disch := first | omega | (simp only [List.length_append, List.length_cons, List.length_nil]; omega) | (intros; simp only [ne_eq, reduceCtorEq, not_false_eq_true] <;> fail)) only [DL.R, Nat.reduceEqDiff, ↓reduceIte, reduceCtorEq, Int.reduceToNat, Int.reduceLE, Int.reduceLT, Nat.reduceLeDiff, Nat.reduceAdd, Nat.reduceMul, Int.reduceBNe, Int.reduceBEq, Int.cast_ofNat_Int, decide_true, decide_false, ne_eq, eq_self, implies_true, dc14_r0, dc14_r1, dc14_r2, dc14_r3, dc14_r4, dc14_r5, dc14_r6, dc14_r7, dc14_r8, dc14_r9, dc14_r10, dc14_r11, dc14_r12, dc14_r13, dc14_r14, dc14_r15, dc14_r16, dc14_r17, dc14_r18, dc14_r19, dc14_r20, dc14, DL.dI, DL.dB, DL.dS, g0, g4, g7, g8, onBox_rs, hb, hsl2, toksD]
          exact fin _ _ (by rw [hz]; exact Deep.tup2 (Deep.nil _) (Deep.refl _ _))
        | cons t0 rest' =>
          have hul : toksD s.l = tokD t0 :: toksD rest' := by rw [hsl2]; rfl
          have hul3 : toksD (t0 :: rest') = tokD t0 :: toksD rest' := rfl
          have hln : (toksD rest').length = rest'.length := by simp [toksD]
          have hle1 : rest'.length + 1 ≤ ts.length := by have := hsuf.1; simp only [hsl2, List.length_cons] at this; exact this
          have hnz : (((rest'.length + 1 : Nat) : Int) == 0) = false := by simp; omega
          have hnn : ((ts.length : Int) - ((rest'.length + 1 : Nat) : Int)).toNat = ts.length - (rest'.length + 1) := by omega
          obtain ⟨a, ha⟩ : ∃ a, ts.take (ts.length - (rest'.length + 1)) = a := ⟨_, rfl⟩
          have hsl : (toksD ts).take (ts.length - (rest'.length + 1)) = toksD a := by rw [← ha]; simp [toksD]
          have hal : a.length = ts.length - (rest'.length + 1) := by rw [← ha]; simp
          have hao : offs a ≤ 8192 := by rw [← ha]; exact Nat.le_trans (offs_take _ _) k3
          have hdl : (toksD a).length = a.length := by simp [toksD]
          simp -dsimp -implicitDefEqProofs (maxSteps := 1000000) (disch := first | omega | (simp only [List.length_append, List.length_cons, List.length_nil]; omega) | (intros; simp only [ne_eq, reduceCtorEq, not_false_eq_true] <;> fail)) only [DL.R, Nat.reduceEqDiff, ↓reduceIte, reduceCtorEq, Int.reduceToNat, Int.reduceLE, Int.reduceLT, Nat.reduceLeDiff, Nat.reduceAdd, Nat.reduceMul, Int.reduceBNe, Int.reduceBEq, Int.cast_ofNat_Int, decide_true, decide_false, ne_eq, eq_self, implies_true, dc14_r0, dc14_r1, dc14_r2, dc14_r3, dc14_r4, dc14_r5, dc14_r6, dc14_r7, dc14_r8, dc14_r9, dc14_r10, dc14_r11, dc14_r12, dc14_r13, dc14_r14, dc14_r15, dc14_r16, dc14_r17, dc14_r18, dc14_r19, dc14_r20, dc14, DL.dI, DL.dB, DL.dS, g0, g4, g7, g8, onBox_rs, hb, hul, hul3, htl2, hln, hnz, hnn, hsl, DL.wrap_id]
          refine ⟨by omega, by omega, ht2, ?_⟩
          refine for_i 72 a.length (fun k s' H' => (∃ Gs, H' = H ++ (rsO 60 s :: Gs)) ∧ s' 0 = dS (str l) ∧ s' 7 = .ptr H.length 0 ∧ s' 6 = dI (offs (a.take k)) ∧ s' 70 = .sl (toksD a) ∧ s' 71 = dI a.length) ?_ ?_ ?_
          · simp -dsimp -implicitDefEqProofs (maxSteps := 1000000) (disch := first | omega | (simp only [List.length_append, List.length_cons, List.length_nil]; omega) | (intros; simp only [ne_eq, reduceCtorEq, not_false_eq_true] <;> fail)) only [DL.R, Nat.reduceEqDiff, ↓reduceIte, reduceCtorEq, Int.reduceToNat, Int.reduceLE, Int.reduceLT, Nat.reduceLeDiff, Nat.reduceAdd, Nat.reduceMul, Int.reduceBNe, Int.reduceBEq, Int.cast_ofNat_Int, decide_true, decide_false, ne_eq, eq_self, implies_true, DL.dI, DL.dB, DL.dS]
          · simp -dsimp -implicitDefEqProofs (maxSteps := 1000000) (disch := first | omega | (simp only [List.length_append, List.length_cons, List.length_nil]; omega) | (intros; simp only [ne_eq, reduceCtorEq, not_false_eq_true] <;> fail)) only [DL.R, Nat.reduceEqDiff, ↓reduceIte, reduceCtorEq, Int.reduceToNat, Int.reduceLE, Int.reduceLT, Nat.reduceLeDiff, Nat.reduceAdd, Nat.reduceMul, Int.reduceBNe, Int.reduceBEq, Int.cast_ofNat_Int, decide_true, decide_false, ne_eq, eq_self, implies_true, DL.dI, DL.dB, DL.dS, g0, g7, hdl]
            exact ⟨⟨_, rfl⟩, by simp [offs]⟩
          · rintro k s' H' hk ht ⟨⟨Gs, rfl⟩, j0, j7, j6, j70, j71⟩
            unfold toksD at j70
            by_cases c5 : k < a.length
            · have f5 : decide ((k : Int) < (a.length : Int)) = true := by simp; omega
              obtain ⟨q, hq⟩ : ∃ q, a[k] = q := ⟨_, rfl⟩
              have htk : a.take (k + 1) = a.take k ++ [q] := by rw [List.take_succ_eq_append_getElem c5, hq]
              have hoq : offs (a.take (k + 1)) = offs (a.take k) + (q.before.length + q.text.length) := by rw [htk, offs_snoc]
              have hob := offs_take a (k + 1)
              simp -dsimp -implicitDefEqProofs (maxSteps := 1000000) (disch := first | omega | (simp only [List.length_append, List.length_cons, List.length_nil]; omega) | (intros; simp only [ne_eq, reduceCtorEq, not_false_eq_true] <;> fail)) only [DL.R, Nat.reduceEqDiff, ↓reduceIte, reduceCtorEq, Int.reduceToNat, Int.reduceLE, Int.reduceLT, Nat.reduceLeDiff, Nat.reduceAdd, Nat.reduceMul, Int.reduceBNe, Int.reduceBEq, Int.cast_ofNat_Int, decide_true, decide_false, ne_eq, eq_self, implies_true, dc14_r0, dc14_r1, dc14_r2, dc14_r3, dc14_r4, dc14_r5, dc14_r6, dc14_r7, dc14_r8, dc14_r9, dc14_r10, dc14_r11, dc14_r12, dc14_r13, dc14_r14, dc14_r15, dc14_r16, dc14_r17, dc14_r18, dc14_r19, dc14_r20, dc14, DL.dI, DL.dB, DL.dS, j0, j7, j6, j70, j71, ht, f5, hq, tokD, DL.wrap_id]
              exact ⟨c5, ⟨_, rfl⟩, by rw [hoq]; simp, rfl⟩
            · have f5 : decide ((k : Int) < (a.length : Int)) = false := by simp; omega
              have htk : a.take k = a := List.take_of_length_le (by omega)
              have hbf : t0.before.length ≤ 8192 := by
                have hm : t0 ∈ ts := by
                  have := hsuf.2
                  simp only [hsl2] at this
                  exact List.mem_of_mem_drop (this ▸ List.mem_cons_self)
                obtain ⟨x, y, hxy⟩ := List.append_of_mem hm
                have : offs (x ++ t0 :: y) ≤ 8192 := hxy ▸ k3
                have hx : ∀ z : List Tok, t0.before.length ≤ offs (z ++ t0 :: y) := by
                  intro z
                  induction z with
                  | nil => simp [offs]; omega
                  | cons w z ih => simp [offs]; omega
                have := hx x; omega
              simp -dsimp -implicitDefEqProofs (maxSteps := 1000000) (disch := first | omega | (simp only [List.length_append, List.length_cons, List.length_nil]; omega) | (intros; simp only [ne_eq, reduceCtorEq, not_false_eq_true] <;> fail)) only [DL.R, Nat.reduceEqDiff, ↓reduceIte, reduceCtorEq, Int.reduceToNat, Int.reduceLE, Int.reduceLT, Nat.reduceLeDiff, Nat.reduceAdd, Nat.reduceMul, Int.reduceBNe, Int.reduceBEq, Int.cast_ofNat_Int, decide_true, decide_false, ne_eq, eq_self, implies_true, dc14_r0, dc14_r1, dc14_r2, dc14_r3, dc14_r4, dc14_r5, dc14_r6, dc14_r7, dc14_r8, dc14_r9, dc14_r10, dc14_r11, dc14_r12, dc14_r13, dc14_r14, dc14_r15, dc14_r16, dc14_r17, dc14_r18, dc14_r19, dc14_r20, dc14, DL.dI, DL.dB, DL.dS, j0, j7, j6, j70, j71, ht, f5, htk, onBox_rs, hul, hul3, DL.onIdx_zero, tokD, DL.wrap_id]
              refine fin _ _ ?_
              have hz : parseP l = ([], ((offs a + t0.before.length : Nat) : Int)) := by
                rw [hP, hF]; simp only [parseEnd, hb, hsl2, Bool.true_eq_false, if_false, List.length_cons, ha]
              rw [hz]
              simp only [parseD, Int.natCast_add]
              exact Deep.tup2 (Deep.nil _) (Deep.refl _ _)
      · have hb' : s.bad = false := by simpa using hb
        cases hsl2 : s.l with
        | nil =>
          rw [if_pos (by simp [hsl2])] at hF
          have hz : parseP l = (out, -1) := by rw [hP, hF]; simp [parseEnd, hb']
          have f0 : decide ((0 : Int) > 0) = false := by simp
          have hsl0 : toksD s.l = [] := by rw [hsl2]; rfl
          simp -dsimp -implicitDefEqProofs (maxSteps := 1000000) (disch := first | omega | (simp only [List.length_append, List.length_cons, List.length_nil]; omega) | (intros; simp only [ne_eq, reduceCtorEq, not_false_eq_true] <;> fail)) only [DL.R, Nat.reduceEqDiff, ↓reduceIte, reduceCtorEq, Int.reduceToNat, Int.reduceLE, Int.reduceLT, Nat.reduceLeDiff, Nat.reduceAdd, Nat.reduceMul, Int.reduceBNe, Int.reduceBEq, Int.cast_ofNat_Int, decide_true, decide_false, ne_eq, eq_self, implies_true, dc14_r0, dc14_r1, dc14_r2, dc14_r3, dc14_r4, dc14_r5, dc14_r6, dc14_r7, dc14_r8, dc14_r9, dc14_r10, dc14_r11, dc14_r12, dc14_r13, dc14_r14, dc14_r15, dc14_r16, dc14_r17, dc14_r18, dc14_r19, dc14_r20, dc14, DL.dI, DL.dB, DL.dS, g0, g4, g7, g8, onBox_rs, hb', hsl0, f0]
          refine fin _ _ ?_
          rw [hz]
          exact Deep.tup2 (Deep.own (id := 1) rfl) (Deep.refl _ _)
        | cons t0 rest' =>
          have hul : toksD s.l = tokD t0 :: toksD rest' := by rw [hsl2]; rfl
          have hul3 : toksD (t0 :: rest') = tokD t0 :: toksD rest' := rfl
          have hln : (toksD rest').length = rest'.length := by simp [toksD]
          have hle1 : rest'.length + 1 ≤ ts.length := by have := hsuf.1; simp only [hsl2, List.length_cons] at this; exact this
          have hnz : (((rest'.length + 1 : Nat) : Int) == 0) = false := by simp; omega
          have hpos : decide (((rest'.length + 1 : Nat) : Int) > 0) = true := decide_eq_true (by omega)
          rw [if_neg (by simp [hb', hsl2])] at hF
          by_cases c64 : out.length = 64
          · have f64 : ((out.length : Int) == 64) = true := by simp; omega
            rw [if_pos c64] at hF
            have hnn : ((ts.length : Int) - ((rest'.length + 1 : Nat) : Int)).toNat = ts.length - (rest'.length + 1) := by omega
            obtain ⟨a, ha⟩ : ∃ a, ts.take (ts.length - (rest'.length + 1)) = a := ⟨_, rfl⟩
            have hsl : (toksD ts).take (ts.length - (rest'.length + 1)) = toksD a := by rw [← ha]; simp [toksD]
            have hal : a.length = ts.length - (rest'.length + 1) := by rw [← ha]; simp
            have hao : offs a ≤ 8192 := by rw [← ha]; exact Nat.le_trans (offs_take _ _) k3
            have hdl : (toksD a).length = a.length := by simp [toksD]
            simp -dsimp -implicitDefEqProofs (maxSteps := 1000000) (disch := first | omega | (simp only [List.length_append, List.length_cons, List.length_nil]; omega) | (intros; simp only [ne_eq, reduceCtorEq, not_false_eq_true] <;> fail)) only [DL.R, Nat.reduceEqDiff, ↓reduceIte, reduceCtorEq, Int.reduceToNat, Int.reduceLE, Int.reduceLT, Nat.reduceLeDiff, Nat.reduceAdd, Nat.reduceMul, Int.reduceBNe, Int.reduceBEq, Int.cast_ofNat_Int, decide_true, decide_false, ne_eq, eq_self, implies_true, dc14_r0, dc14_r1, dc14_r2, dc14_r3, dc14_r4, dc14_r5, dc14_r6, dc14_r7, dc14_r8, dc14_r9, dc14_r10, dc14_r11, dc14_r12, dc14_r13, dc14_r14, dc14_r15, dc14_r16, dc14_r17, dc14_r18, dc14_r19, dc14_r20, dc14, DL.dI, DL.dB, DL.dS, g0, g4, g7, g8, onBox_rs, hb', hpos, hlen, f64, hsl2, hul, hul3, htl2, hln, hnz, hnn, hsl, DL.wrap_id]
            refine ⟨by omega, by omega, ht2, ?_⟩
            refine for_i 72 a.length (fun k s' H' => (∃ Gs, H' = H ++ (rsO 60 ⟨t0 :: rest', true⟩ :: Gs)) ∧ s' 0 = dS (str l) ∧ s' 7 = .ptr H.length 0 ∧ s' 6 = dI (offs (a.take k)) ∧ s' 70 = .sl (toksD a) ∧ s' 71 = dI a.length) ?_ ?_ ?_
            · simp -dsimp -implicitDefEqProofs (maxSteps := 1000000) (disch := first | omega | (simp only [List.length_append, List.length_cons, List.length_nil]; omega) | (intros; simp only [ne_eq, reduceCtorEq, not_false_eq_true] <;> fail)) only [DL.R, Nat.reduceEqDiff, ↓reduceIte, reduceCtorEq, Int.reduceToNat, Int.reduceLE, Int.reduceLT, Nat.reduceLeDiff, Nat.reduceAdd, Nat.reduceMul, Int.reduceBNe, Int.reduceBEq, Int.cast_ofNat_Int, decide_true, decide_false, ne_eq, eq_self, implies_true, DL.dI, DL.dB, DL.dS]
            · simp -dsimp -implicitDefEqProofs (maxSteps := 1000000) (disch := first | omega | (simp only [List.length_append, List.length_cons, List.length_nil]; omega) | (intros; simp only [ne_eq, reduceCtorEq, not_false_eq_true] <;> fail)) only [DL.R, Nat.reduceEqDiff, ↓reduceIte, reduceCtorEq, Int.reduceToNat, Int.reduceLE, Int.reduceLT, Nat.reduceLeDiff, Nat.reduceAdd, Nat.reduceMul, Int.reduceBNe, Int.reduceBEq, Int.cast_ofNat_Int, decide_true, decide_false, ne_eq, eq_self, implies_true, DL.dI, DL.dB, DL.dS, g0, g7, hdl]
              exact ⟨⟨_, rfl⟩, by simp [offs]⟩
            · rintro k s' H' hk ht ⟨⟨Gs, rfl⟩, j0, j7, j6, j70, j71⟩
              unfold toksD at j70
              by_cases c5 : k < a.length
              · have f5 : decide ((k : Int) < (a.length : Int)) = true := by simp; omega
                obtain ⟨q, hq⟩ : ∃ q, a[k] = q := ⟨_, rfl⟩
                have htk : a.take (k + 1) = a.take k ++ [q] := by rw [List.take_succ_eq_append_getElem c5, hq]
                have hoq : offs (a.take (k + 1)) = offs (a.take k) + (q.before.length + q.text.length) := by rw [htk, offs_snoc]
                have hob := offs_take a (k + 1)
                simp -dsimp -implicitDefEqProofs (maxSteps := 1000000) (disch := first | omega | (simp only [List.length_append, List.length_cons, List.length_nil]; omega) | (intros; simp only [ne_eq, reduceCtorEq, not_false_eq_true] <;> fail)) only [DL.R, Nat.reduceEqDiff, ↓reduceIte, reduceCtorEq, Int.reduceToNat, Int.reduceLE, Int.reduceLT, Nat.reduceLeDiff, Nat.reduceAdd, Nat.reduceMul, Int.reduceBNe, Int.reduceBEq, Int.cast_ofNat_Int, decide_true, decide_false, ne_eq, eq_self, implies_true, dc14_r0, dc14_r1, dc14_r2, dc14_r3, dc14_r4, dc14_r5, dc14_r6, dc14_r7, dc14_r8, dc14_r9, dc14_r10, dc14_r11, dc14_r12, dc14_r13, dc14_r14, dc14_r15, dc14_r16, dc14_r17, dc14_r18, dc14_r19, dc14_r20, dc14, DL.dI, DL.dB, DL.dS, j0, j7, j6, j70, j71, ht, f5, hq, tokD, DL.wrap_id]
                exact ⟨c5, ⟨_, rfl⟩, by rw [hoq]; simp, rfl⟩
              · have f5 : decide ((k : Int) < (a.length : Int)) = false := by simp; omega
                have htk : a.take k = a := List.take_of_length_le (by omega)
                have hbf : t0.before.length ≤ 8192 := by
                  have hm : t0 ∈ ts := by
                    have := hsuf.2
                    simp only [hsl2] at this
                    exact List.mem_of_mem_drop (this ▸ List.mem_cons_self)
                  obtain ⟨x, y, hxy⟩ := List.append_of_mem hm
                  have : offs (x ++ t0 :: y) ≤ 8192 := hxy ▸ k3
                  have hx : ∀ z : List Tok, t0.before.length ≤ offs (z ++ t0 :: y) := by
                    intro z
                    induction z with
                    | nil => simp [offs]; omega
                    | cons w z ih => simp [offs]; omega
                  have := hx x; omega
                simp -dsimp -implicitDefEqProofs (maxSteps := 1000000) (disch := first | omega | (simp only [List.length_append, List.length_cons, List.length_nil]; omega) | (intros; simp only [ne_eq, reduceCtorEq, not_false_eq_true] <;> fail)) only [DL.R, Nat.reduceEqDiff, ↓reduceIte, reduceCtorEq, Int.reduceToNat, Int.reduceLE, Int.reduceLT, Nat.reduceLeDiff, Nat.reduceAdd, Nat.reduceMul, Int.reduceBNe, Int.reduceBEq, Int.cast_ofNat_Int, decide_true, decide_false, ne_eq, eq_self, implies_true, dc14_r0, dc14_r1, dc14_r2, dc14_r3, dc14_r4, dc14_r5, dc14_r6, dc14_r7, dc14_r8, dc14_r9, dc14_r10, dc14_r11, dc14_r12, dc14_r13, dc14_r14, dc14_r15, dc14_r16, dc14_r17, dc14_r18, dc14_r19, dc14_r20, dc14, DL.dI, DL.dB, DL.dS, j0, j7, j6, j70, j71, ht, f5, htk, onBox_rs, hul, hul3, DL.onIdx_zero, tokD, DL.wrap_id]
                refine fin _ _ ?_
                have hz : parseP l = ([], ((offs a + t0.before.length : Nat) : Int)) := by
                  rw [hP, hF]; simp only [parseEnd, Bool.true_eq_false, hsl2, Bool.true_eq_false, if_false, List.length_cons, ha]
                rw [hz]
                exact Deep.tup2 (Deep.nil _) (Deep.refl _ _)
          · have f64 : ((out.length : Int) == 64) = false := by simp; omega
            rw [if_neg c64] at hF
            simp -dsimp -implicitDefEqProofs (maxSteps := 1000000) (disch := first | omega | (simp only [List.length_append, List.length_cons, List.length_nil]; omega) | (intros; simp only [ne_eq, reduceCtorEq, not_false_eq_true] <;> fail)) only [DL.R, Nat.reduceEqDiff, ↓reduceIte, reduceCtorEq, Int.reduceToNat, Int.reduceLE, Int.reduceLT, Nat.reduceLeDiff, Nat.reduceAdd, Nat.reduceMul, Int.reduceBNe, Int.reduceBEq, Int.cast_ofNat_Int, decide_true, decide_false, ne_eq, eq_self, implies_true, dc14_r0, dc14_r1, dc14_r2, dc14_r3, dc14_r4, dc14_r5, dc14_r6, dc14_r7, dc14_r8, dc14_r9, dc14_r10, dc14_r11, dc14_r12, dc14_r13, dc14_r14, dc14_r15, dc14_r16, dc14_r17, dc14_r18, dc14_r19, dc14_r20, dc14, DL.dI, DL.dB, DL.dS, g0, g4, g7, g8, onBox_rs, hb', hul, hln, hpos, hlen, f64]
            refine rule_spec hE s hs (by rw [get_own0]; rfl) ?_
            obtain ⟨w1, w2, w3⟩ := rsWho_ok hs
            have w2 := w2 hb'
            have hlr : (rulesD (out ++ [ruleOf s])).length = out.length + 1 := by simp [rulesD]
            simp -dsimp -implicitDefEqProofs (maxSteps := 1000000) (disch := first | omega | (simp only [List.length_append, List.length_cons, List.length_nil]; omega) | (intros; simp only [ne_eq, reduceCtorEq, not_false_eq_true] <;> fail)) only [DL.R, Nat.reduceEqDiff, ↓reduceIte, reduceCtorEq, Int.reduceToNat, Int.reduceLE, Int.reduceLT, Nat.reduceLeDiff, Nat.reduceAdd, Nat.reduceMul, Int.reduceBNe, Int.reduceBEq, Int.cast_ofNat_Int, decide_true, decide_false, ne_eq, eq_self, implies_true, dc14_r0, dc14_r1, dc14_r2, dc14_r3, dc14_r4, dc14_r5, dc14_r6, dc14_r7, dc14_r8, dc14_r9, dc14_r10, dc14_r11, dc14_r12, dc14_r13, dc14_r14, dc14_r15, dc14_r16, dc14_r17, dc14_r18, dc14_r19, dc14_r20, dc14, DL.dI, DL.dB, DL.dS, g0, g4, g7, g8, hlen, ruleD, ruleL]
            have hm1 : ∀ (u : RS) (Gs : List O), msr H.length (H ++ (rsO 60 u :: Gs)) = u.left := by
              intro u Gs; unfold msr; rw [get_own0]; simp [rsO, RS.left, toksD]
            rw [hm1, hm1]
            exact ⟨by omega, ⟨f, (rsWho s).2, out ++ [ruleOf s], ver + 1, w1, RS.suf_trans w3 hsuf, by omega, by simp; omega, hF, rfl, by rw [rulesD_snoc]; rfl⟩, w2⟩
  · have e0 : (p != -1) = true := by simp [c0]
    rw [if_pos c0] at hP
    simp -dsimp -implicitDefEqProofs (maxSteps := 1000000) (disch := first | omega | (simp only [List.length_append, List.length_cons, List.length_nil]; omega) | (intros; simp only [ne_eq, reduceCtorEq, not_false_eq_true] <;> fail)) only [DL.R, Nat.reduceEqDiff, ↓reduceIte, reduceCtorEq, Int.reduceToNat, Int.reduceLE, Int.reduceLT, Nat.reduceLeDiff, Nat.reduceAdd, Nat.reduceMul, Int.reduceBNe, Int.reduceBEq, Int.cast_ofNat_Int, decide_true, decide_false, ne_eq, eq_self, implies_true, dc14_r0, dc14_r1, dc14_r2, dc14_r3, dc14_r4, dc14_r5, dc14_r6, dc14_r7, dc14_r8, dc14_r9, dc14_r10, dc14_r11, dc14_r12, dc14_r13, dc14_r14, dc14_r15, dc14_r16, dc14_r17, dc14_r18, dc14_r19, dc14_r20, dc14, DL.dI, DL.dB, DL.dS, e0]
    have := fin [] (.tup [.lit (.slice none 0 0), dI p]) (by rw [hP]; exact Deep.tup2 (Deep.nil _) (Deep.refl _ _))
    simpa using this
end Go.Proofs.Tryd
set_option maxRecDepth 100000
set_option linter.unusedSimpArgs false
set_option linter.unusedVariables false
namespace Go.Proofs.Tryd
open Go Go.DL
variable {G : Nat → D} {H : List O} {Q : D → List O → Prop}
inductive St where
  | what | inn | name | colon | count | of_ | who | more
  deriving DecidableEq
structure PS where
  out : List Rule
  r : Rule
  st : St
def PS.again (p : PS) (t : List UInt8) : Bool := decide (p.st = .more) && (t != [44]) && decide (p.r.n ≤ (p.r.who.length : Int))
def PS.pre (p : PS) (t : List UInt8) : PS := if p.again t then ⟨p.out ++ [p.r], p.r, .what⟩ else p
def refStep (p0 : PS) (t : List UInt8) : PS × Bool :=
  let p := p0.pre t
  match p.st with
  | .what => (⟨p.out, ⟨str t, str [], 0, []⟩, .inn⟩, whatsL.contains t && decide (p.out.length < 64))
  | .inn => (⟨p.out, p.r, if t = [105, 110] then .name else .count⟩, t == [105, 110] || t == [58])
  | .name => (⟨p.out, { p.r with mod := str t }, .colon⟩, isWord kwL t)
  | .colon => (⟨p.out, p.r, .count⟩, t == [58])
  | .count => (⟨p.out, { p.r with n := numberF t }, .of_⟩, decide (1 ≤ numberF t) && decide (numberF t ≤ 8))
  | .of_ => (⟨p.out, p.r, .who⟩, t == [111, 102])
  | .who => (⟨p.out, { p.r with who := p.r.who ++ [numberF t] }, .more⟩, decide (0 ≤ numberF t) && decide (numberF t ≤ 7) && (p.r.who.length == 0 || decide (p.r.who.getD (p.r.who.length - 1) 0 < numberF t)))
  | .more => (⟨p.out, p.r, .who⟩, t == [44])
def refRun : List Tok → PS → Nat → Option PS × Nat
  | [], p, a => (some p, a)
  | t :: l, p, a => if (refStep p t.text).2 then refRun l (refStep p t.text).1 (a + t.before.length + t.text.length) else (none, a + t.before.length)
def refEnd (n : Nat) : Option PS × Nat → List Rule × Int
  | (none, a) => ([], (a : Int))
  | (some p, _) => if p.st = .what then (p.out, -1) else if p.st = .more ∧ p.r.n ≤ (p.r.who.length : Int) then (p.out ++ [p.r], -1) else ([], (n : Int))
def refP (l : List UInt8) : List Rule × Int :=
  if (scan l).2.2 ≠ -1 then ([], (scan l).2.2) else refEnd l.length (refRun (scan l).1 ⟨[], ⟨str [], str [], 0, []⟩, .what⟩ 0)
end Go.Proofs.Tryd
set_option maxRecDepth 100000
set_option maxHeartbeats 4000000
set_option linter.unusedSimpArgs false
set_option linter.unusedVariables false
set_option maxRecDepth 100000
set_option linter.unusedSimpArgs false
set_option linter.unusedVariables false
namespace Go.Proofs.Tryd
open Go Go.DL Go.RowKit
variable {G : Nat → D} {H : List O} {Q : D → List O → Prop}
set_option maxHeartbeats 1000000 in
theorem cc_used (b : Nat) (w : World) (h0 : w.cell? ⟨b, 0, none⟩ = some (.pointer (some ⟨b, 0, none⟩))) :
    Calls Tryd.prog 53 #[.pointer (some ⟨b, 0, none⟩)] w fun e w' => e = .returned (.tuple #[]) ∧ w' = w := by
  obtain ⟨j, hj, _⟩ := Option.map_eq_some_iff.1 Tryd.Builder_Extra_169.sizeBuilder
  have u77 : Tryd.prog.underlying 77 = some (.pointer 80) := by kernel_rfl
  go_enter Tryd.func53, Tryd.ntmps53
  go_wp2
  rw [Lib.run_neq_ptr_same w _ u77 hj]
  go_wp2
  go_end0
  exact ⟨rfl, rfl⟩
set_option maxHeartbeats 1000000 in
theorem cc_fresh (b : Nat) (w : World) (h0 : w.cell? ⟨b, 0, none⟩ = some (.pointer none)) (hsh : w.shape? b = some (80, 2)) (hfz : w.frozen? ⟨b, 0, none⟩ = false) :
    Calls Tryd.prog 53 #[.pointer (some ⟨b, 0, none⟩)] w fun e w' => e = .returned (.tuple #[]) ∧ w' = w.setCell ⟨b, 0, none⟩ (.pointer (some ⟨b, 0, none⟩)) := by
  obtain ⟨j, hj, hjs⟩ := Option.map_eq_some_iff.1 Tryd.Builder_Extra_169.sizeBuilder
  have u77 : Tryd.prog.underlying 77 = some (.pointer 80) := by kernel_rfl
  have u101 : Tryd.prog.underlying 101 = some .unsafePointer := by kernel_rfl
  go_enter Tryd.func53, Tryd.ntmps53
  go_wp2
  rw [Lib.run_to_unsafe w ⟨b, 0, none⟩ u77 u101 hj (by rw [hjs]; decide) hsh (Nat.zero_lt_succ 1)]
  simp only [Result.andThen]
  rw [Oper.upon_value]
  go_wp2
  rw [run_callFunc_extern Tryd.func60 (by kernel_rfl) (by kernel_rfl) (by kernel_rfl) (e := Extern.AbiNoEscape.same) (by kernel_rfl)]
  rw [Lib.run_noEscape]
  simp only [Result.andThen]
  rw [Oper.upon_value]
  go_wp2
  rw [Lib.run_from_unsafe w ⟨b, 0, none⟩ u101 u77 hj hsh Tryd.Builder_Extra_169.liesBuilder]
  simp only [Result.andThen]
  rw [Oper.upon_value]
  go_wp2
  go_end0
  exact ⟨rfl, rfl⟩
set_option maxHeartbeats 1000000 in
theorem str_row (b g cap : Nat) (l : List UInt8) (cur : Array Value) (p : Value) (w : World) (hbk : w.heap[b]? = some (.cells #[p, .slice (some ⟨g, 0, none⟩) l.length cap] 80 (0, 0))) (hg : w.heap[g]? = some (.cells cur 5 (0, 0))) (h0 : l ≠ []) (hlc : l.length ≤ cap) (hcm : cap ≤ maxLen) (hcs : l.length ≤ cur.size)
    (hcells : ∀ j x, l[j]? = some x → w.cell? ⟨g, j, none⟩ = some (.int .u8 x.toNat)) :
    Calls Tryd.prog 40 #[.pointer (some ⟨b, 0, none⟩)] w fun e w' => e = .returned (.string ⟨l.toArray⟩) ∧ w' = w.drew.freeze ⟨g, 0, none⟩ l.length := by
  have hl0 : l.length ≠ 0 := by simpa using h0
  have c1 : w.drew.cell? ⟨b, 1, none⟩ = some (.slice (some ⟨g, 0, none⟩) l.length cap) := by
    have : w.drew.heap[b]? = some (.cells #[p, .slice (some ⟨g, 0, none⟩) l.length cap] 80 (0, 0)) := hbk
    rw [Lib.cell_of_heap this]; rfl
  have hSD : (Builtin.unsafeSliceData_ #[78] 93 #[.slice (some ⟨g, 0, none⟩) l.length cap]).run Tryd.prog w.drew = .ok (.pointer (some ⟨g, 0, none⟩)) w.drew :=
    Lib.run_unsafeSliceData_row _ _ _ _ _ _ (by omega)
  have hUS : (Builtin.unsafeString_ #[93, 3] 9 #[.pointer (some ⟨g, 0, none⟩), .int .i64 l.length]).run Tryd.prog w.drew = .ok (.string ⟨l.toArray⟩) (w.drew.freeze ⟨g, 0, none⟩ l.length) := by
    refine Lib.run_unsafeString_row w.drew 93 3 9 5 Tryd.lays169.t127 Tryd.Builder_Extra_169.cellsByte g cur.size (by have hg' : w.drew.heap[g]? = some (.cells cur 5 (0, 0)) := hg; simp [World.shape?, hg']) l h0 (by omega) (by unfold maxLen at hcm; omega) ?_
    intro j x hx
    have := hcells j x hx
    rw [Addr.add_lit, Nat.zero_add]
    exact this
  have L := Tryd.lays169
  have X := Tryd.Builder_Extra_169
  have mixed := L.mixed
  have t72 := L.t72; have a72 := L.a72; have z72 := L.z72; have v72 := L.v72; have u72 := run_underlying L.t72
  have t70 := L.t70; have a70 := L.a70; have z70 := L.z70; have v70 := L.v70; have u70 := run_underlying L.t70
  have t37 := L.t37; have a37 := L.a37; have z37 := L.z37; have v37 := L.v37; have u37 := run_underlying L.t37
  have t127 := L.t127; have a127 := L.a127; have z127 := L.z127; have v127 := L.v127; have u127 := run_underlying L.t127
  have t3 := L.t3; have a3 := L.a3; have z3 := L.z3; have v3 := L.v3; have u3 := run_underlying L.t3
  have t9 := L.t9; have a9 := L.a9; have z9 := L.z9; have v9 := L.v9; have u9 := run_underlying L.t9
  have t5 := X.t5; have a5 := X.a5; have z5 := X.z5; have v5 := X.v5; have u5 := run_underlying X.t5
  go_enter Tryd.func40, Tryd.ntmps40
  go_wp2
  go_region_o
  all_goals (go_wp2; go_ret; exact ⟨rfl, rfl⟩)
set_option maxHeartbeats 1000000 in
theorem str_nil (b : Nat) (p : Value) (w : World) (hbk : w.heap[b]? = some (.cells #[p, .slice none 0 0] 80 (0, 0))) :
    Calls Tryd.prog 40 #[.pointer (some ⟨b, 0, none⟩)] w fun e w' => e = .returned (.string ⟨#[]⟩) ∧ w' = w.drew := by
  have L := Tryd.lays169
  have X := Tryd.Builder_Extra_169
  have hUS : ∀ (W : World) (q : Option Addr), (Builtin.unsafeString_ #[93, 3] 9 #[.pointer q, .int .i64 0]).run Tryd.prog W = .ok (.string .empty) W := fun W q => Lib.run_unsafeString_none W _ _ _ q
  have c1 : w.drew.cell? ⟨b, 1, none⟩ = some (.slice none 0 0) := by
    have : w.drew.heap[b]? = some (.cells #[p, .slice none 0 0] 80 (0, 0)) := hbk
    rw [Lib.cell_of_heap this]; rfl
  have hSD : (Builtin.unsafeSliceData_ #[78] 93 #[.slice none 0 0]).run Tryd.prog w.drew = .ok (.pointer none) w.drew := rfl
  have mixed := L.mixed
  have t72 := L.t72; have a72 := L.a72; have z72 := L.z72; have v72 := L.v72; have u72 := run_underlying L.t72
  have t70 := L.t70; have a70 := L.a70; have z70 := L.z70; have v70 := L.v70; have u70 := run_underlying L.t70
  have t37 := L.t37; have a37 := L.a37; have z37 := L.z37; have v37 := L.v37; have u37 := run_underlying L.t37
  have t127 := L.t127; have a127 := L.a127; have z127 := L.z127; have v127 := L.v127; have u127 := run_underlying L.t127
  have t3 := L.t3; have a3 := L.a3; have z3 := L.z3; have v3 := L.v3; have u3 := run_underlying L.t3
  have t9 := L.t9; have a9 := L.a9; have z9 := L.z9; have v9 := L.v9; have u9 := run_underlying L.t9
  have t5 := X.t5; have a5 := X.a5; have z5 := X.z5; have v5 := X.v5; have u5 := run_underlying X.t5
  go_enter Tryd.func40, Tryd.ntmps40
  go_wp2
  go_region_o
  all_goals (go_wp2; go_ret; exact ⟨rfl, rfl⟩)
end Go.Proofs.Tryd
set_option maxRecDepth 100000
set_option linter.unusedSimpArgs false
set_option linter.unusedVariables false
namespace Go.Proofs.Tryd
open Go Go.DL
variable {G : Nat → D} {H : List O} {Q : D → List O → Prop}
theorem box_at {F : Frm} {c : Conc} {w : World} (h : RelH F c H w) {id : Nat} {e : TypeId} {ys : List D} (hH : H[id]? = some (.box e ys)) {v : Value} (hv : RdV c H (.ptr id 0) v) :
    ∃ b cs, v = .pointer (some ⟨b, 0, none⟩) ∧ c.κ id = .pointer (some ⟨b, 0, none⟩) ∧ w.heap[b]? = some (.cells cs e (0, 0)) ∧ cs.size = ys.length ∧ (∀ i (hi : i < ys.length), RdV c H (ys[i]'hi) (cs.getD i undef)) ∧ (∀ z ∈ ys, z.one = true) ∧ ∀ a v, c.Φ a = some v → a.block ≠ b := by
  obtain ⟨b, cs, o1, o2, o3, o4, o5, o6⟩ := h.objs id _ hH
  cases hv with
  | ptr _ _ b' ob hob hk hver hκ =>
    rw [hκ] at o1
    have hbb : b' = b := by injection o1 with q; injection q with q; injection q
    subst hbb
    exact ⟨b', cs, rfl, hκ, o2, o3, o4, o5, o6⟩
theorem setCell_box {F : Frm} {c : Conc} {w : World} (h : RelH F c H w) {id : Nat} {e : TypeId} {a y : D} (hH : H[id]? = some (.box e [a, y])) {b : Nat} {cs : Array Value} (hκ : c.κ id = .pointer (some ⟨b, 0, none⟩)) (o2 : w.heap[b]? = some (.cells cs e (0, 0))) :
    RelH F c (H.set id (.box e [.ptr id 0, y])) (w.setCell ⟨b, 0, none⟩ (.pointer (some ⟨b, 0, none⟩))) := by
  have hid : id < H.length := (List.getElem?_eq_some_iff.1 hH).1
  obtain ⟨b', cs', p1, p2, o3, o4, o5, o6⟩ := h.objs id _ hH
  rw [hκ] at p1
  have hbb : b' = b := by injection p1 with q; injection q with q; injection q with q; exact q.symm
  subst hbb
  rw [o2] at p2
  cases p2
  have hE : Ext c H c (H.set id (.box e [.ptr id 0, y])) := Ext.set hH rfl rfl
  have hb : blk (c.κ id) = some b' := by rw [hκ]; rfl
  have hnew : (w.setCell ⟨b', 0, none⟩ (.pointer (some ⟨b', 0, none⟩))).heap[b']? = some (.cells (cs.setIfInBounds 0 (.pointer (some ⟨b', 0, none⟩))) e (0, 0)) := by
    simp [World.setCell, Array.getElem?_modify, o2]
  refine h.step (some b') id ⟨rfl, rfl, rfl, by simp [World.setCell], fun k _ hk => RowKit.Below.heap_setCell _ _ _ _ (fun e => hk (by simp [e]))⟩ (fun b'' hb'' => ⟨hid, by rw [← hb'']; exact hb⟩) hE (fun _ _ _ => rfl) (fun j hj => List.getElem?_set_ne (by omega)) (fun a u ha => .inl ha)
    (fun a u ha hrow => absurd (Option.some.inj hrow).symm (o6 a u ha)) ?_ (fun b'' _ hb'' => .inl ⟨hid, hb''⟩) ?_
  · intro p hp
    rw [List.getElem?_set_self hid] at hp
    cases hp
    have hsz : cs.size = 2 := o3
    refine ⟨b', _, hκ, hnew, by simp [hsz], ?_, ?_, o6⟩
    · intro i hi
      match i, hi with
      | 0, _ =>
        have : (cs.setIfInBounds 0 (.pointer (some ⟨b', 0, none⟩))).getD 0 undef = .pointer (some ⟨b', 0, none⟩) := by
          simp [Array.getD, hsz]
        rw [this]
        exact .ptr id 0 b' _ (List.getElem?_set_self hid) rfl rfl hκ
      | 1, _ =>
        have h1 : 1 < cs.size := by omega
        have : (cs.setIfInBounds 0 (.pointer (some ⟨b', 0, none⟩))).getD 1 undef = cs.getD 1 undef := by
          simp [Array.getD, h1]
        rw [this]
        exact (o4 1 (by simp)).ext hE
    · intro z hz
      simp only [List.mem_cons, List.not_mem_nil, or_false] at hz
      rcases hz with rfl | rfl
      · rfl
      · exact o5 z (by simp)
  · intro ver es hm; rw [hH] at hm; cases hm
theorem copyCheck_spec {id : Nat} {a y : D} (hH : H[id]? = some (.box 80 [a, y])) (ha : a = .lit (.pointer none) ∨ a = .ptr id 0) (hQ : Q (.tup []) (H.set id (.box 80 [.ptr id 0, y]))) : CallA Tryd.prog G 53 [.ptr id 0] H Q := by
  refine ⟨⟨_, Tryd.func53, by kernel_rfl, by kernel_rfl⟩, fun F c w vs h1 h2 h3 h4 => ?_⟩
  have hv := h4 0 (by simp)
  obtain ⟨b, cs, e1, e2, e3, e4, e5, e6, e7⟩ := box_at h1 hH hv
  have hvs : vs = #[.pointer (some ⟨b, 0, none⟩)] := by
    apply Array.ext
    · simpa using h3
    · intro i hi hi'
      have : i = 0 := by simpa using hi'
      subst this
      have : vs.getD 0 undef = vs[0] := by simp [Array.getD, hi]
      rw [← this, e1]; simp
  subst hvs
  have hsz : cs.size = 2 := e4
  have hc0 : w.cell? ⟨b, 0, none⟩ = some (cs.getD 0 undef) := by
    simp [World.cell?, e3, Array.getD, hsz]
  have ret : ∀ w', RelH F c (H.set id (.box 80 [.ptr id 0, y])) w' → ∃ v d c' H', (Ending.returned (.tuple #[]) : Ending) = .returned v ∧ RelH F c' H' w' ∧ Ext c H c' H' ∧ RdV c' H' d v ∧ Q d H' := fun w' hw' =>
    ⟨_, .tup [], c, _, rfl, hw', Ext.set hH rfl rfl, .tup [] #[] rfl (fun i hi => by simp at hi), hQ⟩
  have r0 := e5 0 (by simp)
  simp only [List.getElem_cons_zero] at r0
  rcases ha with rfl | rfl
  · generalize hg : cs.getD 0 undef = u at r0 hc0
    cases r0
    refine (cc_fresh b w hc0 (by simp [World.shape?, e3, hsz]) (by simp [World.frozen?, e3])).mono ?_
    rintro e w' ⟨rfl, rfl⟩
    exact ret _ (setCell_box h1 hH e2 e3)
  · generalize hg : cs.getD 0 undef = u at r0 hc0
    cases r0 with
    | ptr _ _ b' ob hob hk hver hκ =>
      rw [e2] at hκ
      have hbb : b = b' := by injection hκ with q; injection q with q; injection q
      subst hbb
      refine (cc_used b w hc0).mono ?_
      rintro e w' ⟨rfl, rfl⟩
      refine ret _ ?_
      rw [set_self _ _ _ hH]; exact h1
theorem string_nil_spec {id : Nat} {a : D} (hH : H[id]? = some (.box 80 [a, .lit (.slice none 0 0)])) (hQ : Q (dS (str [])) H) : CallA Tryd.prog G 40 [.ptr id 0] H Q := by
  refine ⟨⟨_, Tryd.func40, by kernel_rfl, by kernel_rfl⟩, fun F c w vs h1 h2 h3 h4 => ?_⟩
  have hv := h4 0 (by simp)
  obtain ⟨b, cs, e1, e2, e3, e4, e5, e6, e7⟩ := box_at h1 hH hv
  have hvs : vs = #[.pointer (some ⟨b, 0, none⟩)] := by
    apply Array.ext
    · simpa using h3
    · intro i hi hi'
      have : i = 0 := by simpa using hi'
      subst this
      have : vs.getD 0 undef = vs[0] := by simp [Array.getD, hi]
      rw [← this, e1]; simp
  subst hvs
  have hsz : cs.size = 2 := e4
  have r1 := e5 1 (by simp)
  simp only [List.getElem_cons_succ, List.getElem_cons_zero] at r1
  have hcs : cs = #[cs.getD 0 undef, cs.getD 1 undef] := by
    apply Array.ext
    · simpa using hsz
    · intro i hi hi'
      have hi2 : i < 2 := by simpa using hi'
      match i, hi2 with
      | 0, _ => simp [Array.getD, hsz]
      | 1, _ => simp [Array.getD, hsz]
  generalize hg1 : cs.getD 1 undef = u1 at r1 hcs
  cases r1
  rw [hcs] at e3
  refine (str_nil b _ w e3).mono ?_
  rintro e w' ⟨rfl, rfl⟩
  exact ⟨_, _, c, H, rfl, h1.drew, Ext.refl _ _, .lit _, hQ⟩
def bytesD (l : List UInt8) : List D := l.map fun u => .lit (.int .u8 u.toNat)
theorem flat_bytes : ∀ l : List UInt8, flat (bytesD l) = bytesD l
  | [] => rfl
  | a :: l => by
    have ih := flat_bytes l
    simp only [bytesD, flat] at ih ⊢
    simp only [List.map_cons, List.flatMap_cons, D.leaves, ih]; rfl
theorem cell_freeze (w : World) (g n : Nat) (a : Addr) : (w.freeze ⟨g, 0, none⟩ n).cell? a = w.cell? a := by
  unfold World.freeze
  split
  · rfl
  · simp only [World.cell?, Array.getElem?_modify]
    by_cases hg : g = a.block
    · subst hg
      simp only [if_true]
      cases w.heap[a.block]? with
      | none => rfl
      | some o => cases o <;> rfl
    · rw [if_neg hg]
theorem string_row_spec {id rid ver : Nat} {a : D} {x : Bool} (l : List UInt8) (hl0 : l ≠ []) (hH : H[id]? = some (.box 80 [a, .row rid ver])) (hR : H[rid]? = some (.row x ver 5 1 (bytesD l))) (hQ : Q (dS (str l)) (H.set rid (.row true (ver + 1) 5 1 []))) :
    CallA Tryd.prog G 40 [.ptr id 0] H Q := by
  refine ⟨⟨_, Tryd.func40, by kernel_rfl, by kernel_rfl⟩, fun F c w vs h1 h2 h3 h4 => ?_⟩
  have hv := h4 0 (by simp)
  obtain ⟨b, cs, e1, e2, e3, e4, e5, e6, e7⟩ := box_at h1 hH hv
  have hvs : vs = #[.pointer (some ⟨b, 0, none⟩)] := by
    apply Array.ext
    · simpa using h3
    · intro i hi hi'
      have : i = 0 := by simpa using hi'
      subst this
      have : vs.getD 0 undef = vs[0] := by simp [Array.getD, hi]
      rw [← this, e1]; simp
  subst hvs
  have hsz : cs.size = 2 := e4
  have r1 := e5 1 (by simp)
  simp only [List.getElem_cons_succ, List.getElem_cons_zero] at r1
  have hcs : cs = #[cs.getD 0 undef, cs.getD 1 undef] := by
    apply Array.ext
    · simpa using hsz
    · intro i hi hi'
      have hi2 : i < 2 := by simpa using hi'
      match i, hi2 with
      | 0, _ => simp [Array.getD, hsz]
      | 1, _ => simp [Array.getD, hsz]
  generalize hg1 : cs.getD 1 undef = u1 at r1 hcs
  have hrid : rid < H.length := (List.getElem?_eq_some_iff.1 hR).1
  cases r1 with
  | row _ _ sz ob ao n cap ho hk hver hκ =>
    rw [hR] at ho
    cases ho
    have hκ := hκ rfl
    have hok := h1.objs rid _ hR
    obtain ⟨q0, q1, cells, hown, q2, q3⟩ := hok
    have hbl : (bytesD l).length = l.length := by simp [bytesD]
    have hl1 : l.length ≠ 0 := by simpa using hl0
    rw [hbl] at hown
    rcases hown.2 with ⟨_, hz⟩ | ⟨g, cap', cur, hv', _, hh, hle, hmax, hcsz, htake⟩
    · exact absurd hz hl1
    · rw [← hκ] at hv'
      injection hv' with z1 z2 z3
      subst z1 z2 z3
      rw [hcs] at e3
      have hfl : flat (bytesD l) = bytesD l := flat_bytes l
      have hcellv : ∀ j u, l[j]? = some u → w.cell? ⟨g, j, none⟩ = some (.int .u8 u.toNat) := by
        intro j u hj
        have hjl : j < l.length := (List.getElem?_eq_some_iff.1 hj).1
        have hju : l[j] = u := (List.getElem?_eq_some_iff.1 hj).2
        have hjf : j < (flat (bytesD l)).length := by rw [hfl, hbl]; exact hjl
        have := q2 j hjf
        have e8 : (flat (bytesD l))[j]'hjf = .lit (.int .u8 u.toNat) := by
          have : (flat (bytesD l))[j]? = some (.lit (.int .u8 u.toNat)) := by rw [hfl]; simp [bytesD, hj]
          rw [List.getElem?_eq_getElem hjf] at this
          exact Option.some.inj this
        rw [e8] at this
        have hjc : j < cells.length := by rw [hown.1]; omega
        have hcell := own_cell hown (g := g) (by rw [← hκ]; rfl) j hjc
        rw [hcell, List.getElem?_eq_getElem hjc]
        rw [List.getD_eq_getElem?_getD, List.getElem?_eq_getElem hjc, Option.getD_some] at this
        generalize cells[j] = cv at this
        cases this
        rfl
      refine (str_row b g _ l cur _ w e3 hh hl0 hle hmax (by omega) hcellv).mono ?_
      rintro e w' ⟨rfl, rfl⟩
      have hg : blk (c.κ rid) = some g := by rw [← hκ]; rfl
      have hE : Ext c H (updκ c rid (.slice none 0 0)) (H.set rid (.row true (ver + 1) 5 1 [])) := by
        refine ⟨fun _ _ q => q, fun i o hi => ?_⟩
        by_cases hii : i = rid
        · subst hii
          rw [hR] at hi; cases hi
          exact ⟨_, List.getElem?_set_self hrid, rfl, by simp [O.ver], fun q => by simp [O.ver] at q⟩
        · exact ⟨o, by rw [List.getElem?_set_ne (by omega)]; exact hi, rfl, Nat.le_refl _, fun _ => by simp [updκ, hii]⟩
      refine ⟨_, dS (str l), updκ c rid (.slice none 0 0), _, rfl, ?_, hE, .lit _, hQ⟩
      refine h1.drew.step (some g) rid ?_ (fun b'' hb'' => ⟨hrid, by rw [← hb'']; exact hg⟩) hE (fun i _ hi => by simp [updκ, hi]) (fun j hj => List.getElem?_set_ne (by omega)) (fun a u ha => .inl ha)
        (fun a u ha _ => by rw [cell_freeze]; exact h1.good a u ha) ?_ (fun b'' _ hb'' => by simp [updκ, blk] at hb'') ?_
      · refine ⟨?_, ?_, ?_, ?_, ?_⟩
        · unfold World.freeze; split <;> rfl
        · unfold World.freeze; split <;> rfl
        · unfold World.freeze; split <;> rfl
        · unfold World.freeze; split <;> simp
        · intro k hk hne
          unfold World.freeze
          split
          · rfl
          · simp only [Array.getElem?_modify]
            rw [if_neg (fun e => hne (by simp [e]))]
      · intro p hp
        rw [List.getElem?_set_self hrid] at hp
        cases hp
        exact ⟨by omega, fun y hy => by simp at hy, [], by simp only [updκ, if_true]; exact World.ownsRow_nil _ 0 5 1, fun k hk => by simp [flat] at hk, fun g' hg' => by simp [updκ, blk] at hg'⟩
      · intro ver' es hm; rw [hR] at hm; cases hm
end Go.Proofs.Tryd
set_option maxRecDepth 100000
set_option linter.unusedSimpArgs false
set_option linter.unusedVariables false
namespace Go.Proofs.Tryd
open Go Go.DL
variable {G : Nat → D} {H : List O} {Q : D → List O → Prop}
def BldAt (H K : List O) (t : List UInt8) : Prop :=
  (t = [] ∧ ∃ Gs, K = H ++ (.box 80 [.lit (.pointer none), .lit (.slice none 0 0)] :: Gs)) ∨
  (t ≠ [] ∧ ∃ Gs j ver, Gs[j]? = some (.row true ver 5 1 (bytesD t)) ∧ K = H ++ (.box 80 [.ptr H.length 0, .row (H.length + (j + 1)) ver] :: Gs))
theorem BldAt.pre {K : List O} {t : List UInt8} (h : BldAt H K t) : ∃ Gs, K = H ++ Gs := by
  rcases h with ⟨_, Gs, rfl⟩ | ⟨_, Gs, j, ver, _, rfl⟩
  · exact ⟨_, rfl⟩
  · exact ⟨_, rfl⟩
theorem BldAt.push {K : List O} {t : List UInt8} (h : BldAt H K t) (l : List O) : BldAt H (K ++ l) t := by
  rcases h with ⟨h0, Gs, rfl⟩ | ⟨h0, Gs, j, ver, hj, rfl⟩
  · exact .inl ⟨h0, Gs ++ l, by simp⟩
  · exact .inr ⟨h0, Gs ++ l, j, ver, by rw [List.getElem?_append_left (List.getElem?_eq_some_iff.1 hj).1]; exact hj, by simp⟩
theorem bytesD_app (a b : List UInt8) : bytesD a ++ bytesD b = bytesD (a ++ b) := by simp [bytesD]
theorem ws_spec {K : List O} {t s : List UInt8} (hB : BldAt H K t) (hne : t ++ s ≠ []) (hlen : t.length + s.length ≤ 140737488355328)
    (hQ : ∀ K', BldAt H K' (t ++ s) → K.length ≤ K'.length → (∀ i e ys, i ≠ H.length → K[i]? = some (.box e ys) → K'[i]? = some (.box e ys)) → Q (.tup [dI s.length, .lit .nilIface]) K') :
    CallA Tryd.prog G 38 [.ptr H.length 0, dS (str s)] K Q := by
  refine s38 (Nat.le_of_ble_eq_true rfl) ?_
  have hbs : (str s).size = s.length := str_size s
  have hdl : (str s).data.toList = s := str_list s
  have hbd : ∀ l : List UInt8, (l.map fun u => D.lit (.int .u8 u.toNat)) = bytesD l := fun _ => rfl
  rcases hB with ⟨rfl, Gs, rfl⟩ | ⟨h0, Gs, j, ver, hj, rfl⟩
  · simp -dsimp -implicitDefEqProofs (maxSteps := 1000000) (disch := first | omega | (simp only [List.length_append, List.length_cons, List.length_nil]; omega) | (intros; simp only [ne_eq, reduceCtorEq, not_false_eq_true] <;> fail)) only [DL.R, Nat.reduceEqDiff, ↓reduceIte, reduceCtorEq, Int.reduceToNat, Int.reduceLE, Int.reduceLT, Nat.reduceLeDiff, Nat.reduceAdd, Nat.reduceMul, Int.reduceBNe, Int.reduceBEq, Int.cast_ofNat_Int, decide_true, decide_false, ne_eq, eq_self, implies_true, dc38_r0, dc38_r1, dc38_r2, dc38_r3, dc38, DL.dI, DL.dB, DL.dS]
    refine copyCheck_spec (id := H.length) (a := .lit (.pointer none)) (y := .lit (.slice none 0 0)) (by rw [get_own0]; rfl) (.inl rfl) ?_
    simp -dsimp -implicitDefEqProofs (maxSteps := 1000000) (disch := first | omega | (simp only [List.length_append, List.length_cons, List.length_nil]; omega) | (intros; simp only [ne_eq, reduceCtorEq, not_false_eq_true] <;> fail)) only [DL.R, Nat.reduceEqDiff, ↓reduceIte, reduceCtorEq, Int.reduceToNat, Int.reduceLE, Int.reduceLT, Nat.reduceLeDiff, Nat.reduceAdd, Nat.reduceMul, Int.reduceBNe, Int.reduceBEq, Int.cast_ofNat_Int, decide_true, decide_false, ne_eq, eq_self, implies_true, dc38_r0, dc38_r1, dc38_r2, dc38_r3, dc38, DL.dI, DL.dB, DL.dS]
    refine ⟨by simpa using hlen, ?_⟩
    refine hQ _ (.inr ⟨hne, Gs ++ [.row true 1 5 1 (bytesD s)], Gs.length, 1, by simp, ?_⟩) (by simp) ?_
    · rw [hdl]; rfl
    · intro i e ys hi hk
      by_cases hil : i < H.length
      · rw [List.getElem?_append_left hil] at hk ⊢; exact hk
      · obtain ⟨m, rfl⟩ : ∃ m, i = H.length + (m + 1) := ⟨i - H.length - 1, by omega⟩
        rw [get_own, List.getElem?_cons_succ] at hk ⊢
        rw [List.getElem?_append_left (List.getElem?_eq_some_iff.1 hk).1]; exact hk
  · have hjl : j < Gs.length := (List.getElem?_eq_some_iff.1 hj).1
    have hbl : (bytesD t).length = t.length := by simp [bytesD]
    simp -dsimp -implicitDefEqProofs (maxSteps := 1000000) (disch := first | omega | (simp only [List.length_append, List.length_cons, List.length_nil]; omega) | (intros; simp only [ne_eq, reduceCtorEq, not_false_eq_true] <;> fail)) only [DL.R, Nat.reduceEqDiff, ↓reduceIte, reduceCtorEq, Int.reduceToNat, Int.reduceLE, Int.reduceLT, Nat.reduceLeDiff, Nat.reduceAdd, Nat.reduceMul, Int.reduceBNe, Int.reduceBEq, Int.cast_ofNat_Int, decide_true, decide_false, ne_eq, eq_self, implies_true, dc38_r0, dc38_r1, dc38_r2, dc38_r3, dc38, DL.dI, DL.dB, DL.dS]
    refine copyCheck_spec (id := H.length) (a := .ptr H.length 0) (y := .row (H.length + (j + 1)) ver) (by rw [get_own0]; rfl) (.inr rfl) ?_
    simp -dsimp -implicitDefEqProofs (maxSteps := 1000000) (disch := first | omega | (simp only [List.length_append, List.length_cons, List.length_nil]; omega) | (intros; simp only [ne_eq, reduceCtorEq, not_false_eq_true] <;> fail)) only [DL.R, Nat.reduceEqDiff, ↓reduceIte, reduceCtorEq, Int.reduceToNat, Int.reduceLE, Int.reduceLT, Nat.reduceLeDiff, Nat.reduceAdd, Nat.reduceMul, Int.reduceBNe, Int.reduceBEq, Int.cast_ofNat_Int, decide_true, decide_false, ne_eq, eq_self, implies_true, dc38_r0, dc38_r1, dc38_r2, dc38_r3, dc38, DL.dI, DL.dB, DL.dS, hj, hbl]
    refine ⟨by omega, ?_⟩
    refine hQ _ (.inr ⟨hne, Gs.set j (.row true (ver + 1) 5 1 (bytesD (t ++ s))), j, ver + 1, List.getElem?_set_self hjl, ?_⟩) (by simp) ?_
    · rw [hdl, hbd, bytesD_app]
    · intro i e ys hi hk
      by_cases hil : i < H.length
      · rw [List.getElem?_append_left hil] at hk ⊢; exact hk
      · obtain ⟨m, rfl⟩ : ∃ m, i = H.length + (m + 1) := ⟨i - H.length - 1, by omega⟩
        rw [get_own, List.getElem?_cons_succ] at hk ⊢
        by_cases hmj : j = m
        · subst hmj; rw [hj] at hk; cases hk
        · rw [List.getElem?_set_ne hmj]; exact hk
theorem str_spec {K : List O} {t : List UInt8} (hB : BldAt H K t) (hQ : ∀ Gs, Q (dS (str t)) (H ++ Gs)) : CallA Tryd.prog G 40 [.ptr H.length 0] K Q := by
  rcases hB with ⟨rfl, Gs, rfl⟩ | ⟨h0, Gs, j, ver, hj, rfl⟩
  · exact string_nil_spec (id := H.length) (a := .lit (.pointer none)) (by rw [get_own0]; rfl) (hQ _)
  · have hjl : j < Gs.length := (List.getElem?_eq_some_iff.1 hj).1
    refine string_row_spec (id := H.length) (rid := H.length + (j + 1)) (ver := ver) (a := .ptr H.length 0) t h0 (by rw [get_own0]; rfl) (by rw [get_own, List.getElem?_cons_succ]; exact hj) ?_
    rw [set_own]
    exact hQ _
end Go.Proofs.Tryd
set_option maxRecDepth 100000
set_option maxHeartbeats 2000000
set_option linter.unusedSimpArgs false
set_option linter.unusedVariables false
namespace Go.Proofs.Tryd
open Go Go.DL
variable {G : Nat → D} {H : List O} {Q : D → List O → Prop}
theorem isWhat_eq (s : List UInt8) : isWhat kindsL s = whatsL.contains s := by
  rw [Bool.eq_iff_iff]
  simp only [isWhat, kindsL, whatsL, Bool.or_eq_true, Bool.and_eq_true, beq_iff_eq, bne_iff_ne, List.contains_iff_mem, List.mem_cons, List.not_mem_nil, or_false]
  constructor
  · rintro (h | ⟨_, h⟩)
    · simp [h]
    · rcases h with h | h | h | h | h | h | h | h | h | h | h | h | h | h <;> simp [h]
  · rintro (h | h | h | h | h | h | h) <;> subst h <;> decide
def whoAt (who : List Int) (j : Nat) : Bool := decide (0 ≤ who.getD j 0) && decide (who.getD j 0 ≤ 7) && (j == 0 || decide (who.getD (j - 1) 0 < who.getD j 0))
def whoOk (who : List Int) : Bool := (List.range who.length).all (whoAt who)
def bl8 (b : ByteArray) : List UInt8 := b.data.toList
theorem bl8_str (l : List UInt8) : bl8 (str l) = l := str_list l
theorem str_bl8 (b : ByteArray) : str (bl8 b) = b := (str_of b).symm
def ruleOk (r : Rule) : Bool := whatsL.contains (bl8 r.what) && (bl8 r.mod == [] || isWord kwL (bl8 r.mod)) && decide (1 ≤ r.n) && decide (r.n ≤ (r.who.length : Int)) && whoOk r.who
def validF (l : List Rule) : Bool := l.all ruleOk && decide (l.length ≤ 64)
def ruleLen (r : Rule) : Prop := (bl8 r.what).length ≤ 1099511627776 ∧ (bl8 r.mod).length ≤ 1099511627776 ∧ r.who.length ≤ 1099511627776
theorem validF_no {l : List Rule} {k : Nat} (h : k < l.length) (hk : ruleOk (l[k]'h) = false) : validF l = false := by
  unfold validF
  rw [← Bool.not_eq_true, Bool.and_eq_true, List.all_eq_true]
  intro q
  have := q.1 _ (List.getElem_mem h)
  rw [hk] at this; cases this
theorem whoOk_no {who : List Int} {j : Nat} (h : j < who.length) (hj : whoAt who j = false) : whoOk who = false := by
  unfold whoOk
  rw [← Bool.not_eq_true, List.all_eq_true]
  intro q
  have := q j (List.mem_range.2 h)
  rw [hj] at this; cases this
theorem validF_end {l : List Rule} (h : ∀ j, j < l.length → ∀ h : j < l.length, ruleOk (l[j]'h) = true) : validF l = decide (l.length ≤ 64) := by
  unfold validF
  have : l.all ruleOk = true := by
    rw [List.all_eq_true]
    intro r hr
    obtain ⟨j, hj, rfl⟩ := List.mem_iff_getElem.1 hr
    exact h j hj hj
  rw [this, Bool.true_and]
theorem valid_spec (hE : Env G) (l : List Rule) (hl : l.length ≤ 1099511627776) (hr : ∀ r ∈ l, ruleLen r) (hQ : Q (dB (validF l)) H) : CallA Tryd.prog G 19 [.sl (rulesD l)] H Q := by
  refine CallA.drop (s19 (Nat.le_of_ble_eq_true rfl) ?_)
  have fin : ∀ z, validF l = z → ∀ Gs, ∃ Gs_1, H ++ Gs = H ++ Gs_1 ∧ Below H.length (.lit (.bool z)) ∧ Q (.lit (.bool z)) H := fun z hz Gs => ⟨Gs, rfl, .lit _, hz ▸ hQ⟩
  simp -dsimp -implicitDefEqProofs (maxSteps := 1000000) (disch := first | omega | (simp only [List.length_append, List.length_cons, List.length_nil]; omega) | (intros; simp only [ne_eq, reduceCtorEq, not_false_eq_true] <;> fail)) only [DL.R, Nat.reduceEqDiff, ↓reduceIte, reduceCtorEq, Int.reduceToNat, Int.reduceLE, Int.reduceLT, Nat.reduceLeDiff, Nat.reduceAdd, Nat.reduceMul, Int.reduceBNe, Int.reduceBEq, Int.cast_ofNat_Int, decide_true, decide_false, ne_eq, eq_self, implies_true, dc19_r0, dc19_r1, dc19_r2, dc19_r3, dc19_r4, dc19_r5, dc19_r6, dc19_r7, dc19_r8, dc19_r9, dc19_r10, dc19_r11, dc19_r12, dc19_r13, dc19, DL.dI, DL.dB, DL.dS]
  have hlen : (rulesD l).length = l.length := rules_len l
  refine for_i 9 l.length (fun k s' H' => (∃ Gs, H' = H ++ Gs) ∧ s' 0 = .sl (rulesD l) ∧ s' 7 = .sl (rulesD l) ∧ s' 8 = dI l.length ∧ ∀ j, j < k → ∀ h : j < l.length, ruleOk (l[j]'h) = true) ?_ ?_ ?_
  · simp -dsimp -implicitDefEqProofs (maxSteps := 1000000) (disch := first | omega | (simp only [List.length_append, List.length_cons, List.length_nil]; omega) | (intros; simp only [ne_eq, reduceCtorEq, not_false_eq_true] <;> fail)) only [DL.R, Nat.reduceEqDiff, ↓reduceIte, reduceCtorEq, Int.reduceToNat, Int.reduceLE, Int.reduceLT, Nat.reduceLeDiff, Nat.reduceAdd, Nat.reduceMul, Int.reduceBNe, Int.reduceBEq, Int.cast_ofNat_Int, decide_true, decide_false, ne_eq, eq_self, implies_true, DL.dI, DL.dB, DL.dS]
  · simp -dsimp -implicitDefEqProofs (maxSteps := 1000000) (disch := first | omega | (simp only [List.length_append, List.length_cons, List.length_nil]; omega) | (intros; simp only [ne_eq, reduceCtorEq, not_false_eq_true] <;> fail)) only [DL.R, Nat.reduceEqDiff, ↓reduceIte, reduceCtorEq, Int.reduceToNat, Int.reduceLE, Int.reduceLT, Nat.reduceLeDiff, Nat.reduceAdd, Nat.reduceMul, Int.reduceBNe, Int.reduceBEq, Int.cast_ofNat_Int, decide_true, decide_false, ne_eq, eq_self, implies_true, DL.dI, DL.dB, DL.dS, hlen]
    exact ⟨⟨[], by simp⟩, fun j hj => absurd hj (by omega)⟩
  · rintro k s' H' hk ht ⟨⟨Gs, rfl⟩, h0, h7, h8, hP⟩
    have h7' : s' 7 = .sl (l.map ruleD) := h7
    by_cases c : k < l.length
    · have c1 : decide ((k : Int) < (l.length : Int)) = true := decide_eq_true (by omega)
      obtain ⟨q, hq⟩ : ∃ q, l[k] = q := ⟨_, rfl⟩
      obtain ⟨l1, l2, l3⟩ := hr _ (List.getElem_mem c)
      rw [hq] at l1 l2 l3
      have no : ruleOk q = false → validF l = false := fun h => validF_no c (by rw [hq]; exact h)
      obtain ⟨qw, qm, qn, qwho⟩ := q
      simp only at l1 l2 l3
      obtain ⟨wl, hwl⟩ : ∃ wl, bl8 qw = wl := ⟨_, rfl⟩
      obtain ⟨ml, hml⟩ : ∃ ml, bl8 qm = ml := ⟨_, rfl⟩
      have ew : qw = str wl := by rw [← hwl, str_bl8]
      have em : qm = str ml := by rw [← hml, str_bl8]
      subst ew em
      rw [bl8_str] at l1 l2
      have hro : ruleOk ⟨str wl, str ml, qn, qwho⟩ = (whatsL.contains wl && (ml == [] || isWord kwL ml) && decide (1 ≤ qn) && decide (qn ≤ (qwho.length : Int)) && whoOk qwho) := by unfold ruleOk; rw [bl8_str, bl8_str]
      rw [hro] at no
      have hil : (ints qwho).length = qwho.length := by simp [ints]
      have hints : ints qwho = qwho.map dI := rfl
      simp -dsimp -implicitDefEqProofs (maxSteps := 1000000) (disch := first | omega | (simp only [List.length_append, List.length_cons, List.length_nil]; omega) | (intros; simp only [ne_eq, reduceCtorEq, not_false_eq_true] <;> fail)) only [DL.R, Nat.reduceEqDiff, ↓reduceIte, reduceCtorEq, Int.reduceToNat, Int.reduceLE, Int.reduceLT, Nat.reduceLeDiff, Nat.reduceAdd, Nat.reduceMul, Int.reduceBNe, Int.reduceBEq, Int.cast_ofNat_Int, decide_true, decide_false, ne_eq, eq_self, implies_true, dc19_r0, dc19_r1, dc19_r2, dc19_r3, dc19_r4, dc19_r5, dc19_r6, dc19_r7, dc19_r8, dc19_r9, dc19_r10, dc19_r11, dc19_r12, dc19_r13, dc19, DL.dI, DL.dB, DL.dS, h0, h7', h8, ht, c1, hq, ruleD, ruleL, DL.wrap_id]
      refine what_spec kindsL rfl wl hE.kinds ?_
      rw [isWhat_eq]
      by_cases b1 : whatsL.contains wl = true
      · by_cases b2 : ml = []
        · have d2 : (ml == []) = true := by simp [b2]
          by_cases b4 : 1 ≤ qn
          · have d4 : decide (qn < 1) = false := decide_eq_false (by omega)
            have d4' : decide (1 ≤ qn) = true := decide_eq_true b4
            by_cases b5 : qn ≤ (qwho.length : Int)
            · have d5 : decide (qn > (qwho.length : Int)) = false := decide_eq_false (by omega)
              have d5' : decide (qn ≤ (qwho.length : Int)) = true := decide_eq_true b5
              have hro2 : ruleOk ⟨str wl, str ml, qn, qwho⟩ = whoOk qwho := by rw [hro]; simp only [b1, d2, d4', d5', Bool.true_or, Bool.or_true, Bool.true_and]
              simp -dsimp -implicitDefEqProofs (maxSteps := 1000000) (disch := first | omega | (simp only [List.length_append, List.length_cons, List.length_nil]; omega) | (intros; simp only [ne_eq, reduceCtorEq, not_false_eq_true] <;> fail)) only [DL.R, Nat.reduceEqDiff, ↓reduceIte, reduceCtorEq, Int.reduceToNat, Int.reduceLE, Int.reduceLT, Nat.reduceLeDiff, Nat.reduceAdd, Nat.reduceMul, Int.reduceBNe, Int.reduceBEq, Int.cast_ofNat_Int, decide_true, decide_false, ne_eq, eq_self, implies_true, dc19_r0, dc19_r1, dc19_r2, dc19_r3, dc19_r4, dc19_r5, dc19_r6, dc19_r7, dc19_r8, dc19_r9, dc19_r10, dc19_r11, dc19_r12, dc19_r13, dc19, DL.dI, DL.dB, DL.dS, b1, d2, d4, d5, hil, DL.wrap_id]
              refine for_i 44 qwho.length (fun i s'' H'' => (∃ Gx, H'' = H ++ (Gs ++ (.box 42 [dS (str wl), dS (str ml), dI qn, .sl (ints qwho)] :: Gx))) ∧ s'' 0 = .sl (rulesD l) ∧ s'' 7 = .sl (rulesD l) ∧ s'' 8 = dI l.length ∧ s'' 9 = dI k ∧ s'' 4 = .ptr (H.length + Gs.length) 0 ∧ s'' 42 = .sl (ints qwho) ∧ s'' 43 = dI qwho.length ∧ ∀ j, j < i → j < qwho.length → whoAt qwho j = true) ?_ ?_ ?_
              · simp -dsimp -implicitDefEqProofs (maxSteps := 1000000) (disch := first | omega | (simp only [List.length_append, List.length_cons, List.length_nil]; omega) | (intros; simp only [ne_eq, reduceCtorEq, not_false_eq_true] <;> fail)) only [DL.R, Nat.reduceEqDiff, ↓reduceIte, reduceCtorEq, Int.reduceToNat, Int.reduceLE, Int.reduceLT, Nat.reduceLeDiff, Nat.reduceAdd, Nat.reduceMul, Int.reduceBNe, Int.reduceBEq, Int.cast_ofNat_Int, decide_true, decide_false, ne_eq, eq_self, implies_true, DL.dI, DL.dB, DL.dS]
              · simp -dsimp -implicitDefEqProofs (maxSteps := 1000000) (disch := first | omega | (simp only [List.length_append, List.length_cons, List.length_nil]; omega) | (intros; simp only [ne_eq, reduceCtorEq, not_false_eq_true] <;> fail)) only [DL.R, Nat.reduceEqDiff, ↓reduceIte, reduceCtorEq, Int.reduceToNat, Int.reduceLE, Int.reduceLT, Nat.reduceLeDiff, Nat.reduceAdd, Nat.reduceMul, Int.reduceBNe, Int.reduceBEq, Int.cast_ofNat_Int, decide_true, decide_false, ne_eq, eq_self, implies_true, DL.dI, DL.dB, DL.dS, h0, h7, h8, ht]
                exact ⟨⟨[], rfl⟩, fun j hj => absurd hj (by omega)⟩
              · rintro i s'' H'' hi gt ⟨⟨Gs2, rfl⟩, g0, g7, g8, g9, g4, g42, g43, gP⟩
                have g42' : s'' 42 = .sl (qwho.map dI) := g42
                by_cases e : i < qwho.length
                · have f1 : decide ((i : Int) < (qwho.length : Int)) = true := decide_eq_true (by omega)
                  have hgd : qwho.getD i 0 = qwho[i] := by rw [List.getD_eq_getElem?_getD, List.getElem?_eq_getElem e]; rfl
                  obtain ⟨x, hx⟩ : ∃ x, qwho[i] = x := ⟨_, rfl⟩
                  rw [hx] at hgd
                  have no2 : whoAt qwho i = false → validF l = false := fun h => validF_no c (by rw [hq, hro2]; exact whoOk_no e h)
                  have hat : whoAt qwho i = (decide (0 ≤ x) && decide (x ≤ 7) && (i == 0 || decide (qwho.getD (i - 1) 0 < x))) := by unfold whoAt; rw [hgd]
                  rw [hat] at no2
                  have go : whoAt qwho i = true → ∀ j, j < i + 1 → j < qwho.length → whoAt qwho j = true := fun h j hj hjl => by
                    by_cases hji : j < i
                    · exact gP j hji hjl
                    · have : j = i := by omega
                      subst this; exact h
                  rw [hat] at go
                  by_cases x0 : 0 ≤ x
                  · have y0 : decide (x < 0) = false := decide_eq_false (by omega)
                    have y0' : decide (0 ≤ x) = true := decide_eq_true x0
                    by_cases x7 : x ≤ 7
                    · have y7 : decide (x ≥ 8) = false := decide_eq_false (by omega)
                      have y7' : decide (x ≤ 7) = true := decide_eq_true x7
                      by_cases i0 : i = 0
                      · have j0 : decide ((i : Int) > 0) = false := decide_eq_false (by omega)
                        have j0' : (i == 0) = true := by simp [i0]
                        simp -dsimp -implicitDefEqProofs (maxSteps := 1000000) (disch := first | omega | (simp only [List.length_append, List.length_cons, List.length_nil]; omega) | (intros; simp only [ne_eq, reduceCtorEq, not_false_eq_true] <;> fail)) only [DL.R, Nat.reduceEqDiff, ↓reduceIte, reduceCtorEq, Int.reduceToNat, Int.reduceLE, Int.reduceLT, Nat.reduceLeDiff, Nat.reduceAdd, Nat.reduceMul, Int.reduceBNe, Int.reduceBEq, Int.cast_ofNat_Int, decide_true, decide_false, ne_eq, eq_self, implies_true, dc19_r0, dc19_r1, dc19_r2, dc19_r3, dc19_r4, dc19_r5, dc19_r6, dc19_r7, dc19_r8, dc19_r9, dc19_r10, dc19_r11, dc19_r12, dc19_r13, dc19, DL.dI, DL.dB, DL.dS, g0, g7, g8, g9, g4, g42', g43, gt, f1, hx, y0, y7, j0, DL.wrap_id]
                        exact ⟨e, ⟨_, rfl⟩, rfl, go (by simp only [y0', y7', j0', Bool.true_and, Bool.true_or])⟩
                      · have j0 : decide ((i : Int) > 0) = true := decide_eq_true (by omega)
                        have j0' : (i == 0) = false := by simp [i0]
                        have hpr : qwho.getD (i - 1) 0 = qwho[i - 1] := by rw [List.getD_eq_getElem?_getD, List.getElem?_eq_getElem (by omega)]; rfl
                        have hpn : ((i : Int) - 1).toNat = i - 1 := by omega
                        obtain ⟨pv, hpv⟩ : ∃ pv, qwho[i - 1] = pv := ⟨_, rfl⟩
                        rw [hpv] at hpr
                        by_cases xp : pv < x
                        · have yp : decide (x ≤ pv) = false := decide_eq_false (by omega)
                          have yp' : decide (pv < x) = true := decide_eq_true xp
                          simp -dsimp -implicitDefEqProofs (maxSteps := 1000000) (disch := first | omega | (simp only [List.length_append, List.length_cons, List.length_nil]; omega) | (intros; simp only [ne_eq, reduceCtorEq, not_false_eq_true] <;> fail)) only [DL.R, Nat.reduceEqDiff, ↓reduceIte, reduceCtorEq, Int.reduceToNat, Int.reduceLE, Int.reduceLT, Nat.reduceLeDiff, Nat.reduceAdd, Nat.reduceMul, Int.reduceBNe, Int.reduceBEq, Int.cast_ofNat_Int, decide_true, decide_false, ne_eq, eq_self, implies_true, dc19_r0, dc19_r1, dc19_r2, dc19_r3, dc19_r4, dc19_r5, dc19_r6, dc19_r7, dc19_r8, dc19_r9, dc19_r10, dc19_r11, dc19_r12, dc19_r13, dc19, DL.dI, DL.dB, DL.dS, g0, g7, g8, g9, g4, g42', g43, gt, f1, hx, y0, y7, j0, hints, hpn, hpv, yp, DL.wrap_id]
                          exact ⟨e, ⟨_, rfl⟩, go (by simp only [y0', y7', hpr, yp', Bool.true_and, Bool.or_true])⟩
                        · have yp : decide (x ≤ pv) = true := decide_eq_true (by omega)
                          have yp' : decide (pv < x) = false := decide_eq_false xp
                          simp -dsimp -implicitDefEqProofs (maxSteps := 1000000) (disch := first | omega | (simp only [List.length_append, List.length_cons, List.length_nil]; omega) | (intros; simp only [ne_eq, reduceCtorEq, not_false_eq_true] <;> fail)) only [DL.R, Nat.reduceEqDiff, ↓reduceIte, reduceCtorEq, Int.reduceToNat, Int.reduceLE, Int.reduceLT, Nat.reduceLeDiff, Nat.reduceAdd, Nat.reduceMul, Int.reduceBNe, Int.reduceBEq, Int.cast_ofNat_Int, decide_true, decide_false, ne_eq, eq_self, implies_true, dc19_r0, dc19_r1, dc19_r2, dc19_r3, dc19_r4, dc19_r5, dc19_r6, dc19_r7, dc19_r8, dc19_r9, dc19_r10, dc19_r11, dc19_r12, dc19_r13, dc19, DL.dI, DL.dB, DL.dS, g0, g7, g8, g9, g4, g42', g43, gt, f1, hx, y0, y7, j0, hints, hpn, hpv, yp, DL.wrap_id]
                          exact fin _ (no2 (by simp only [hpr, yp', j0', Bool.or_false, Bool.and_false, Bool.false_or])) _
                    · have y7 : decide (x ≥ 8) = true := decide_eq_true (by omega)
                      have y7' : decide (x ≤ 7) = false := decide_eq_false x7
                      simp -dsimp -implicitDefEqProofs (maxSteps := 1000000) (disch := first | omega | (simp only [List.length_append, List.length_cons, List.length_nil]; omega) | (intros; simp only [ne_eq, reduceCtorEq, not_false_eq_true] <;> fail)) only [DL.R, Nat.reduceEqDiff, ↓reduceIte, reduceCtorEq, Int.reduceToNat, Int.reduceLE, Int.reduceLT, Nat.reduceLeDiff, Nat.reduceAdd, Nat.reduceMul, Int.reduceBNe, Int.reduceBEq, Int.cast_ofNat_Int, decide_true, decide_false, ne_eq, eq_self, implies_true, dc19_r0, dc19_r1, dc19_r2, dc19_r3, dc19_r4, dc19_r5, dc19_r6, dc19_r7, dc19_r8, dc19_r9, dc19_r10, dc19_r11, dc19_r12, dc19_r13, dc19, DL.dI, DL.dB, DL.dS, g0, g7, g8, g9, g4, g42', g43, gt, f1, hx, y0, y7]
                      exact fin _ (no2 (by simp only [y7', Bool.and_false, Bool.false_and])) _
                  · have y0 : decide (x < 0) = true := decide_eq_true (by omega)
                    have y0' : decide (0 ≤ x) = false := decide_eq_false x0
                    simp -dsimp -implicitDefEqProofs (maxSteps := 1000000) (disch := first | omega | (simp only [List.length_append, List.length_cons, List.length_nil]; omega) | (intros; simp only [ne_eq, reduceCtorEq, not_false_eq_true] <;> fail)) only [DL.R, Nat.reduceEqDiff, ↓reduceIte, reduceCtorEq, Int.reduceToNat, Int.reduceLE, Int.reduceLT, Nat.reduceLeDiff, Nat.reduceAdd, Nat.reduceMul, Int.reduceBNe, Int.reduceBEq, Int.cast_ofNat_Int, decide_true, decide_false, ne_eq, eq_self, implies_true, dc19_r0, dc19_r1, dc19_r2, dc19_r3, dc19_r4, dc19_r5, dc19_r6, dc19_r7, dc19_r8, dc19_r9, dc19_r10, dc19_r11, dc19_r12, dc19_r13, dc19, DL.dI, DL.dB, DL.dS, g0, g7, g8, g9, g4, g42', g43, gt, f1, hx, y0]
                    exact fin _ (no2 (by simp only [y0', Bool.false_and])) _
                · have f1 : decide ((i : Int) < (qwho.length : Int)) = false := decide_eq_false (by omega)
                  simp -dsimp -implicitDefEqProofs (maxSteps := 1000000) (disch := first | omega | (simp only [List.length_append, List.length_cons, List.length_nil]; omega) | (intros; simp only [ne_eq, reduceCtorEq, not_false_eq_true] <;> fail)) only [DL.R, Nat.reduceEqDiff, ↓reduceIte, reduceCtorEq, Int.reduceToNat, Int.reduceLE, Int.reduceLT, Nat.reduceLeDiff, Nat.reduceAdd, Nat.reduceMul, Int.reduceBNe, Int.reduceBEq, Int.cast_ofNat_Int, decide_true, decide_false, ne_eq, eq_self, implies_true, dc19_r0, dc19_r1, dc19_r2, dc19_r3, dc19_r4, dc19_r5, dc19_r6, dc19_r7, dc19_r8, dc19_r9, dc19_r10, dc19_r11, dc19_r12, dc19_r13, dc19, DL.dI, DL.dB, DL.dS, g0, g7, g8, g9, g4, g42, g43, gt, f1, DL.wrap_id]
                  refine ⟨c, ⟨_, rfl⟩, fun j hj h => ?_⟩
                  by_cases hjk : j < k
                  · exact hP j hjk h
                  · have : j = k := by omega
                    subst this
                    rw [hq, hro2]
                    unfold whoOk
                    rw [List.all_eq_true]
                    intro m hm
                    exact gP m (by have := List.mem_range.1 hm; omega) (List.mem_range.1 hm)
            · have d5 : decide (qn > (qwho.length : Int)) = true := decide_eq_true (by omega)
              have d5' : decide (qn ≤ (qwho.length : Int)) = false := decide_eq_false b5
              simp -dsimp -implicitDefEqProofs (maxSteps := 1000000) (disch := first | omega | (simp only [List.length_append, List.length_cons, List.length_nil]; omega) | (intros; simp only [ne_eq, reduceCtorEq, not_false_eq_true] <;> fail)) only [DL.R, Nat.reduceEqDiff, ↓reduceIte, reduceCtorEq, Int.reduceToNat, Int.reduceLE, Int.reduceLT, Nat.reduceLeDiff, Nat.reduceAdd, Nat.reduceMul, Int.reduceBNe, Int.reduceBEq, Int.cast_ofNat_Int, decide_true, decide_false, ne_eq, eq_self, implies_true, dc19_r0, dc19_r1, dc19_r2, dc19_r3, dc19_r4, dc19_r5, dc19_r6, dc19_r7, dc19_r8, dc19_r9, dc19_r10, dc19_r11, dc19_r12, dc19_r13, dc19, DL.dI, DL.dB, DL.dS, b1, d2, d4, d5, hil]
              exact fin _ (no (by simp only [d5', Bool.and_false, Bool.false_and])) _
          · have d4 : decide (qn < 1) = true := decide_eq_true (by omega)
            have d4' : decide (1 ≤ qn) = false := decide_eq_false b4
            simp -dsimp -implicitDefEqProofs (maxSteps := 1000000) (disch := first | omega | (simp only [List.length_append, List.length_cons, List.length_nil]; omega) | (intros; simp only [ne_eq, reduceCtorEq, not_false_eq_true] <;> fail)) only [DL.R, Nat.reduceEqDiff, ↓reduceIte, reduceCtorEq, Int.reduceToNat, Int.reduceLE, Int.reduceLT, Nat.reduceLeDiff, Nat.reduceAdd, Nat.reduceMul, Int.reduceBNe, Int.reduceBEq, Int.cast_ofNat_Int, decide_true, decide_false, ne_eq, eq_self, implies_true, dc19_r0, dc19_r1, dc19_r2, dc19_r3, dc19_r4, dc19_r5, dc19_r6, dc19_r7, dc19_r8, dc19_r9, dc19_r10, dc19_r11, dc19_r12, dc19_r13, dc19, DL.dI, DL.dB, DL.dS, b1, d2, d4]
            exact fin _ (no (by simp only [d4', Bool.and_false, Bool.false_and])) _
        · have d2 : (ml == []) = false := by simp [b2]
          simp -dsimp -implicitDefEqProofs (maxSteps := 1000000) (disch := first | omega | (simp only [List.length_append, List.length_cons, List.length_nil]; omega) | (intros; simp only [ne_eq, reduceCtorEq, not_false_eq_true] <;> fail)) only [DL.R, Nat.reduceEqDiff, ↓reduceIte, reduceCtorEq, Int.reduceToNat, Int.reduceLE, Int.reduceLT, Nat.reduceLeDiff, Nat.reduceAdd, Nat.reduceMul, Int.reduceBNe, Int.reduceBEq, Int.cast_ofNat_Int, decide_true, decide_false, ne_eq, eq_self, implies_true, dc19_r0, dc19_r1, dc19_r2, dc19_r3, dc19_r4, dc19_r5, dc19_r6, dc19_r7, dc19_r8, dc19_r9, dc19_r10, dc19_r11, dc19_r12, dc19_r13, dc19, DL.dI, DL.dB, DL.dS, b1, d2, DL.wrap_id]
          refine word_spec kwL rfl ml l2 hE.kw hE.kindsF hE.signs ?_
          by_cases b3 : isWord kwL ml = true
          · by_cases b4 : 1 ≤ qn
            · have d4 : decide (qn < 1) = false := decide_eq_false (by omega)
              have d4' : decide (1 ≤ qn) = true := decide_eq_true b4
              by_cases b5 : qn ≤ (qwho.length : Int)
              · have d5 : decide (qn > (qwho.length : Int)) = false := decide_eq_false (by omega)
                have d5' : decide (qn ≤ (qwho.length : Int)) = true := decide_eq_true b5
                have hro2 : ruleOk ⟨str wl, str ml, qn, qwho⟩ = whoOk qwho := by rw [hro]; simp only [b1, d2, b3, d4', d5', Bool.true_or, Bool.or_true, Bool.true_and]
                simp -dsimp -implicitDefEqProofs (maxSteps := 1000000) (disch := first | omega | (simp only [List.length_append, List.length_cons, List.length_nil]; omega) | (intros; simp only [ne_eq, reduceCtorEq, not_false_eq_true] <;> fail)) only [DL.R, Nat.reduceEqDiff, ↓reduceIte, reduceCtorEq, Int.reduceToNat, Int.reduceLE, Int.reduceLT, Nat.reduceLeDiff, Nat.reduceAdd, Nat.reduceMul, Int.reduceBNe, Int.reduceBEq, Int.cast_ofNat_Int, decide_true, decide_false, ne_eq, eq_self, implies_true, dc19_r0, dc19_r1, dc19_r2, dc19_r3, dc19_r4, dc19_r5, dc19_r6, dc19_r7, dc19_r8, dc19_r9, dc19_r10, dc19_r11, dc19_r12, dc19_r13, dc19, DL.dI, DL.dB, DL.dS, b3, d4, d5, hil, DL.wrap_id]
                refine for_i 44 qwho.length (fun i s'' H'' => (∃ Gx, H'' = H ++ (Gs ++ (.box 42 [dS (str wl), dS (str ml), dI qn, .sl (ints qwho)] :: Gx))) ∧ s'' 0 = .sl (rulesD l) ∧ s'' 7 = .sl (rulesD l) ∧ s'' 8 = dI l.length ∧ s'' 9 = dI k ∧ s'' 4 = .ptr (H.length + Gs.length) 0 ∧ s'' 42 = .sl (ints qwho) ∧ s'' 43 = dI qwho.length ∧ ∀ j, j < i → j < qwho.length → whoAt qwho j = true) ?_ ?_ ?_
                · simp -dsimp -implicitDefEqProofs (maxSteps := 1000000) (disch := first | omega | (simp only [List.length_append, List.length_cons, List.length_nil]; omega) | (intros; simp only [ne_eq, reduceCtorEq, not_false_eq_true] <;> fail)) only [DL.R, Nat.reduceEqDiff, ↓reduceIte, reduceCtorEq, Int.reduceToNat, Int.reduceLE, Int.reduceLT, Nat.reduceLeDiff, Nat.reduceAdd, Nat.reduceMul, Int.reduceBNe, Int.reduceBEq, Int.cast_ofNat_Int, decide_true, decide_false, ne_eq, eq_self, implies_true, DL.dI, DL.dB, DL.dS]
                · simp -dsimp -implicitDefEqProofs (maxSteps := 1000000) (disch := first | omega | (simp only [List.length_append, List.length_cons, List.length_nil]; omega) | (intros; simp only [ne_eq, reduceCtorEq, not_false_eq_true] <;> fail)) only [DL.R, Nat.reduceEqDiff, ↓reduceIte, reduceCtorEq, Int.reduceToNat, Int.reduceLE, Int.reduceLT, Nat.reduceLeDiff, Nat.reduceAdd, Nat.reduceMul, Int.reduceBNe, Int.reduceBEq, Int.cast_ofNat_Int, decide_true, decide_false, ne_eq, eq_self, implies_true, DL.dI, DL.dB, DL.dS, h0, h7, h8, ht]
                  exact ⟨⟨[], rfl⟩, fun j hj => absurd hj (by omega)⟩
                · rintro i s'' H'' hi gt ⟨⟨Gs2, rfl⟩, g0, g7, g8, g9, g4, g42, g43, gP⟩
                  have g42' : s'' 42 = .sl (qwho.map dI) := g42
                  by_cases e : i < qwho.length
                  · have f1 : decide ((i : Int) < (qwho.length : Int)) = true := decide_eq_true (by omega)
                    have hgd : qwho.getD i 0 = qwho[i] := by rw [List.getD_eq_getElem?_getD, List.getElem?_eq_getElem e]; rfl
                    obtain ⟨x, hx⟩ : ∃ x, qwho[i] = x := ⟨_, rfl⟩
                    rw [hx] at hgd
                    have no2 : whoAt qwho i = false → validF l = false := fun h => validF_no c (by rw [hq, hro2]; exact whoOk_no e h)
                    have hat : whoAt qwho i = (decide (0 ≤ x) && decide (x ≤ 7) && (i == 0 || decide (qwho.getD (i - 1) 0 < x))) := by unfold whoAt; rw [hgd]
                    rw [hat] at no2
                    have go : whoAt qwho i = true → ∀ j, j < i + 1 → j < qwho.length → whoAt qwho j = true := fun h j hj hjl => by
                      by_cases hji : j < i
                      · exact gP j hji hjl
                      · have : j = i := by omega
                        subst this; exact h
                    rw [hat] at go
                    by_cases x0 : 0 ≤ x
                    · have y0 : decide (x < 0) = false := decide_eq_false (by omega)
                      have y0' : decide (0 ≤ x) = true := decide_eq_true x0
                      by_cases x7 : x ≤ 7
                      · have y7 : decide (x ≥ 8) = false := decide_eq_false (by omega)
                        have y7' : decide (x ≤ 7) = true := decide_eq_true x7
                        by_cases i0 : i = 0
                        · have j0 : decide ((i : Int) > 0) = false := decide_eq_false (by omega)
                          have j0' : (i == 0) = true := by simp [i0]
                          simp -dsimp -implicitDefEqProofs (maxSteps := 1000000) (disch := first | omega | (simp only [List.length_append, List.length_cons, List.length_nil]; omega) | (intros; simp only [ne_eq, reduceCtorEq, not_false_eq_true] <;> fail)) only [DL.R, Nat.reduceEqDiff, ↓reduceIte, reduceCtorEq, Int.reduceToNat, Int.reduceLE, Int.reduceLT, Nat.reduceLeDiff, Nat.reduceAdd, Nat.reduceMul, Int.reduceBNe, Int.reduceBEq, Int.cast_ofNat_Int, decide_true, decide_false, ne_eq, eq_self, implies_true, dc19_r0, dc19_r1, dc19_r2, dc19_r3, dc19_r4, dc19_r5, dc19_r6, dc19_r7, dc19_r8, dc19_r9, dc19_r10, dc19_r11, dc19_r12, dc19_r13, dc19, DL.dI, DL.dB, DL.dS, g0, g7, g8, g9, g4, g42', g43, gt, f1, hx, y0, y7, j0, DL.wrap_id]
                          exact ⟨e, ⟨_, rfl⟩, rfl, go (by simp only [y0', y7', j0', Bool.true_and, Bool.true_or])⟩
                        · have j0 : decide ((i : Int) > 0) = true := decide_eq_true (by omega)
                          have j0' : (i == 0) = false := by simp [i0]
                          have hpr : qwho.getD (i - 1) 0 = qwho[i - 1] := by rw [List.getD_eq_getElem?_getD, List.getElem?_eq_getElem (by omega)]; rfl
                          have hpn : ((i : Int) - 1).toNat = i - 1 := by omega
                          obtain ⟨pv, hpv⟩ : ∃ pv, qwho[i - 1] = pv := ⟨_, rfl⟩
                          rw [hpv] at hpr
                          by_cases xp : pv < x
                          · have yp : decide (x ≤ pv) = false := decide_eq_false (by omega)
                            have yp' : decide (pv < x) = true := decide_eq_true xp
                            simp -dsimp -implicitDefEqProofs (maxSteps := 1000000) (disch := first | omega | (simp only [List.length_append, List.length_cons, List.length_nil]; omega) | (intros; simp only [ne_eq, reduceCtorEq, not_false_eq_true] <;> fail)) only [DL.R, Nat.reduceEqDiff, ↓reduceIte, reduceCtorEq, Int.reduceToNat, Int.reduceLE, Int.reduceLT, Nat.reduceLeDiff, Nat.reduceAdd, Nat.reduceMul, Int.reduceBNe, Int.reduceBEq, Int.cast_ofNat_Int, decide_true, decide_false, ne_eq, eq_self, implies_true, dc19_r0, dc19_r1, dc19_r2, dc19_r3, dc19_r4, dc19_r5, dc19_r6, dc19_r7, dc19_r8, dc19_r9, dc19_r10, dc19_r11, dc19_r12, dc19_r13, dc19, DL.dI, DL.dB, DL.dS, g0, g7, g8, g9, g4, g42', g43, gt, f1, hx, y0, y7, j0, hints, hpn, hpv, yp, DL.wrap_id]
                            exact ⟨e, ⟨_, rfl⟩, go (by simp only [y0', y7', hpr, yp', Bool.true_and, Bool.or_true])⟩
                          · have yp : decide (x ≤ pv) = true := decide_eq_true (by omega)
                            have yp' : decide (pv < x) = false := decide_eq_false xp
                            simp -dsimp -implicitDefEqProofs (maxSteps := 1000000) (disch := first | omega | (simp only [List.length_append, List.length_cons, List.length_nil]; omega) | (intros; simp only [ne_eq, reduceCtorEq, not_false_eq_true] <;> fail)) only [DL.R, Nat.reduceEqDiff, ↓reduceIte, reduceCtorEq, Int.reduceToNat, Int.reduceLE, Int.reduceLT, Nat.reduceLeDiff, Nat.reduceAdd, Nat.reduceMul, Int.reduceBNe, Int.reduceBEq, Int.cast_ofNat_Int, decide_true, decide_false, ne_eq, eq_self, implies_true, dc19_r0, dc19_r1, dc19_r2, dc19_r3, dc19_r4, dc19_r5, dc19_r6, dc19_r7, dc19_r8, dc19_r9, dc19_r10, dc19_r11, dc19_r12, dc19_r13, dc19, DL.dI, DL.dB, DL.dS, g0, g7, g8, g9, g4, g42', g43, gt, f1, hx, y0, y7, j0, hints, hpn, hpv, yp, DL.wrap_id]
                            exact fin _ (no2 (by simp only [hpr, yp', j0', Bool.or_false, Bool.and_false, Bool.false_or])) _
                      · have y7 : decide (x ≥ 8) = true := decide_eq_true (by omega)
                        have y7' : decide (x ≤ 7) = false := decide_eq_false x7
                        simp -dsimp -implicitDefEqProofs (maxSteps := 1000000) (disch := first | omega | (simp only [List.length_append, List.length_cons, List.length_nil]; omega) | (intros; simp only [ne_eq, reduceCtorEq, not_false_eq_true] <;> fail)) only [DL.R, Nat.reduceEqDiff, ↓reduceIte, reduceCtorEq, Int.reduceToNat, Int.reduceLE, Int.reduceLT, Nat.reduceLeDiff, Nat.reduceAdd, Nat.reduceMul, Int.reduceBNe, Int.reduceBEq, Int.cast_ofNat_Int, decide_true, decide_false, ne_eq, eq_self, implies_true, dc19_r0, dc19_r1, dc19_r2, dc19_r3, dc19_r4, dc19_r5, dc19_r6, dc19_r7, dc19_r8, dc19_r9, dc19_r10, dc19_r11, dc19_r12, dc19_r13, dc19, DL.dI, DL.dB, DL.dS, g0, g7, g8, g9, g4, g42', g43, gt, f1, hx, y0, y7]
                        exact fin _ (no2 (by simp only [y7', Bool.and_false, Bool.false_and])) _
                    · have y0 : decide (x < 0) = true := decide_eq_true (by omega)
                      have y0' : decide (0 ≤ x) = false := decide_eq_false x0
                      simp -dsimp -implicitDefEqProofs (maxSteps := 1000000) (disch := first | omega | (simp only [List.length_append, List.length_cons, List.length_nil]; omega) | (intros; simp only [ne_eq, reduceCtorEq, not_false_eq_true] <;> fail)) only [DL.R, Nat.reduceEqDiff, ↓reduceIte, reduceCtorEq, Int.reduceToNat, Int.reduceLE, Int.reduceLT, Nat.reduceLeDiff, Nat.reduceAdd, Nat.reduceMul, Int.reduceBNe, Int.reduceBEq, Int.cast_ofNat_Int, decide_true, decide_false, ne_eq, eq_self, implies_true, dc19_r0, dc19_r1, dc19_r2, dc19_r3, dc19_r4, dc19_r5, dc19_r6, dc19_r7, dc19_r8, dc19_r9, dc19_r10, dc19_r11, dc19_r12, dc19_r13, dc19, DL.dI, DL.dB, DL.dS, g0, g7, g8, g9, g4, g42', g43, gt, f1, hx, y0]
                      exact fin _ (no2 (by simp only [y0', Bool.false_and])) _
                  · have f1 : decide ((i : Int) < (qwho.length : Int)) = false := decide_eq_false (by omega)
                    simp -dsimp -implicitDefEqProofs (maxSteps := 1000000) (disch := first | omega | (simp only [List.length_append, List.length_cons, List.length_nil]; omega) | (intros; simp only [ne_eq, reduceCtorEq, not_false_eq_true] <;> fail)) only [DL.R, Nat.reduceEqDiff, ↓reduceIte, reduceCtorEq, Int.reduceToNat, Int.reduceLE, Int.reduceLT, Nat.reduceLeDiff, Nat.reduceAdd, Nat.reduceMul, Int.reduceBNe, Int.reduceBEq, Int.cast_ofNat_Int, decide_true, decide_false, ne_eq, eq_self, implies_true, dc19_r0, dc19_r1, dc19_r2, dc19_r3, dc19_r4, dc19_r5, dc19_r6, dc19_r7, dc19_r8, dc19_r9, dc19_r10, dc19_r11, dc19_r12, dc19_r13, dc19, DL.dI, DL.dB, DL.dS, g0, g7, g8, g9, g4, g42, g43, gt, f1, DL.wrap_id]
                    refine ⟨c, ⟨_, rfl⟩, fun j hj h => ?_⟩
                    by_cases hjk : j < k
                    · exact hP j hjk h
                    · have : j = k := by omega
                      subst this
                      rw [hq, hro2]
                      unfold whoOk
                      rw [List.all_eq_true]
                      intro m hm
                      exact gP m (by have := List.mem_range.1 hm; omega) (List.mem_range.1 hm)
              · have d5 : decide (qn > (qwho.length : Int)) = true := decide_eq_true (by omega)
                have d5' : decide (qn ≤ (qwho.length : Int)) = false := decide_eq_false b5
                simp -dsimp -implicitDefEqProofs (maxSteps := 1000000) (disch := first | omega | (simp only [List.length_append, List.length_cons, List.length_nil]; omega) | (intros; simp only [ne_eq, reduceCtorEq, not_false_eq_true] <;> fail)) only [DL.R, Nat.reduceEqDiff, ↓reduceIte, reduceCtorEq, Int.reduceToNat, Int.reduceLE, Int.reduceLT, Nat.reduceLeDiff, Nat.reduceAdd, Nat.reduceMul, Int.reduceBNe, Int.reduceBEq, Int.cast_ofNat_Int, decide_true, decide_false, ne_eq, eq_self, implies_true, dc19_r0, dc19_r1, dc19_r2, dc19_r3, dc19_r4, dc19_r5, dc19_r6, dc19_r7, dc19_r8, dc19_r9, dc19_r10, dc19_r11, dc19_r12, dc19_r13, dc19, DL.dI, DL.dB, DL.dS, b3, d4, d5, hil]
                exact fin _ (no (by simp only [d5', Bool.and_false, Bool.false_and])) _
            · have d4 : decide (qn < 1) = true := decide_eq_true (by omega)
              have d4' : decide (1 ≤ qn) = false := decide_eq_false b4
              simp -dsimp -implicitDefEqProofs (maxSteps := 1000000) (disch := first | omega | (simp only [List.length_append, List.length_cons, List.length_nil]; omega) | (intros; simp only [ne_eq, reduceCtorEq, not_false_eq_true] <;> fail)) only [DL.R, Nat.reduceEqDiff, ↓reduceIte, reduceCtorEq, Int.reduceToNat, Int.reduceLE, Int.reduceLT, Nat.reduceLeDiff, Nat.reduceAdd, Nat.reduceMul, Int.reduceBNe, Int.reduceBEq, Int.cast_ofNat_Int, decide_true, decide_false, ne_eq, eq_self, implies_true, dc19_r0, dc19_r1, dc19_r2, dc19_r3, dc19_r4, dc19_r5, dc19_r6, dc19_r7, dc19_r8, dc19_r9, dc19_r10, dc19_r11, dc19_r12, dc19_r13, dc19, DL.dI, DL.dB, DL.dS, b3, d4]
              exact fin _ (no (by simp only [d4', Bool.and_false, Bool.false_and])) _
          · have d3 : isWord kwL ml = false := by simpa using b3
            simp -dsimp -implicitDefEqProofs (maxSteps := 1000000) (disch := first | omega | (simp only [List.length_append, List.length_cons, List.length_nil]; omega) | (intros; simp only [ne_eq, reduceCtorEq, not_false_eq_true] <;> fail)) only [DL.R, Nat.reduceEqDiff, ↓reduceIte, reduceCtorEq, Int.reduceToNat, Int.reduceLE, Int.reduceLT, Nat.reduceLeDiff, Nat.reduceAdd, Nat.reduceMul, Int.reduceBNe, Int.reduceBEq, Int.cast_ofNat_Int, decide_true, decide_false, ne_eq, eq_self, implies_true, dc19_r0, dc19_r1, dc19_r2, dc19_r3, dc19_r4, dc19_r5, dc19_r6, dc19_r7, dc19_r8, dc19_r9, dc19_r10, dc19_r11, dc19_r12, dc19_r13, dc19, DL.dI, DL.dB, DL.dS, d3]
            exact fin _ (no (by simp only [d2, d3, Bool.false_or, Bool.and_false, Bool.false_and])) _
      · have d1 : whatsL.contains wl = false := by simpa using b1
        simp -dsimp -implicitDefEqProofs (maxSteps := 1000000) (disch := first | omega | (simp only [List.length_append, List.length_cons, List.length_nil]; omega) | (intros; simp only [ne_eq, reduceCtorEq, not_false_eq_true] <;> fail)) only [DL.R, Nat.reduceEqDiff, ↓reduceIte, reduceCtorEq, Int.reduceToNat, Int.reduceLE, Int.reduceLT, Nat.reduceLeDiff, Nat.reduceAdd, Nat.reduceMul, Int.reduceBNe, Int.reduceBEq, Int.cast_ofNat_Int, decide_true, decide_false, ne_eq, eq_self, implies_true, dc19_r0, dc19_r1, dc19_r2, dc19_r3, dc19_r4, dc19_r5, dc19_r6, dc19_r7, dc19_r8, dc19_r9, dc19_r10, dc19_r11, dc19_r12, dc19_r13, dc19, DL.dI, DL.dB, DL.dS, d1]
        exact fin _ (no (by simp only [d1, Bool.false_and])) _
    · have c1 : decide ((k : Int) < (l.length : Int)) = false := decide_eq_false (by omega)
      simp -dsimp -implicitDefEqProofs (maxSteps := 1000000) (disch := first | omega | (simp only [List.length_append, List.length_cons, List.length_nil]; omega) | (intros; simp only [ne_eq, reduceCtorEq, not_false_eq_true] <;> fail)) only [DL.R, Nat.reduceEqDiff, ↓reduceIte, reduceCtorEq, Int.reduceToNat, Int.reduceLE, Int.reduceLT, Nat.reduceLeDiff, Nat.reduceAdd, Nat.reduceMul, Int.reduceBNe, Int.reduceBEq, Int.cast_ofNat_Int, decide_true, decide_false, ne_eq, eq_self, implies_true, dc19_r0, dc19_r1, dc19_r2, dc19_r3, dc19_r4, dc19_r5, dc19_r6, dc19_r7, dc19_r8, dc19_r9, dc19_r10, dc19_r11, dc19_r12, dc19_r13, dc19, DL.dI, DL.dB, DL.dS, h0, h7, h8, ht, c1, hlen]
      refine fin _ ?_ _
      rw [validF_end (fun j hj h => hP j (by omega) h), Bool.eq_iff_iff]; simp; omega
end Go.Proofs.Tryd
set_option maxRecDepth 100000
set_option maxHeartbeats 2000000
set_option linter.unusedSimpArgs false
set_option linter.unusedVariables false
