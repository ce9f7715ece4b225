/- Part of a proof of the statement Parses; what it needs in which order stands in GOCLAIM.json. -/
import Derived.Test.YtoehhfhjnjfgiaaDoorParsesG
set_option maxRecDepth 100000
set_option linter.unusedSimpArgs false
set_option linter.unusedVariables false
namespace Go.Proofs.Tryd
open Go Go.DL
variable {G : Nat → D} {H : List O} {Q : D → List O → Prop}
def sameRule (r q : Rule) : Bool := (r.what.toList == q.what.toList) && (r.mod.toList == q.mod.toList) && (r.n == q.n) && (r.who == q.who)
def sameRules (a b : List Rule) : Bool := a.length == b.length && (a.zip b).all fun p => sameRule p.1 p.2
theorem sameRules_spec (a b : List Rule) (hb : a.length ≤ 1099511627776) (hw : ∀ r ∈ a, r.who.length ≤ 1099511627776) (hQ : Q (dB (sameRules a b)) H) : CallA Tryd.prog G 16 [.sl (rulesD a), .sl (rulesD b)] H Q := by
  refine s16 (Nat.le_of_ble_eq_true rfl) ?_
  simp -dsimp -implicitDefEqProofs (maxSteps := 1000000) (disch := first | omega | (simp only [List.length_append, List.length_cons, List.length_nil]; omega) | (intros; simp only [ne_eq, reduceCtorEq, not_false_eq_true] <;> fail)) only [DL.R, Nat.reduceEqDiff, ↓reduceIte, reduceCtorEq, Int.reduceToNat, Int.reduceLE, Int.reduceLT, Nat.reduceLeDiff, Nat.reduceAdd, Nat.reduceMul, Int.reduceBNe, Int.reduceBEq, Int.cast_ofNat_Int, decide_true, decide_false, ne_eq, eq_self, implies_true, dc16_r0, dc16_r1, dc16_r2, dc16_r3, dc16_r4, dc16_r6, dc16_r7, dc16_r5, dc16_r8, dc16, DL.dI, DL.dB, DL.dS, DL.dI, DL.dB, DL.dS, rules_len]
  refine onB_i (fun c => ?_) (fun c => ?_)
  · simp -dsimp -implicitDefEqProofs (maxSteps := 1000000) (disch := first | omega | (simp only [List.length_append, List.length_cons, List.length_nil]; omega) | (intros; simp only [ne_eq, reduceCtorEq, not_false_eq_true] <;> fail)) only [DL.R, Nat.reduceEqDiff, ↓reduceIte, reduceCtorEq, Int.reduceToNat, Int.reduceLE, Int.reduceLT, Nat.reduceLeDiff, Nat.reduceAdd, Nat.reduceMul, Int.reduceBNe, Int.reduceBEq, Int.cast_ofNat_Int, decide_true, decide_false, ne_eq, eq_self, implies_true, dc16_r0, dc16_r1, dc16_r2, dc16_r3, dc16_r4, dc16_r6, dc16_r7, dc16_r5, dc16_r8, dc16, DL.dI, DL.dB, DL.dS]
    have c' : a.length ≠ b.length := by simp at c; omega
    have : sameRules a b = false := by simp [sameRules, c']
    rw [this] at hQ; exact hQ
  have c' : a.length = b.length := by simp at c; omega
  simp -dsimp -implicitDefEqProofs (maxSteps := 1000000) (disch := first | omega | (simp only [List.length_append, List.length_cons, List.length_nil]; omega) | (intros; simp only [ne_eq, reduceCtorEq, not_false_eq_true] <;> fail)) only [DL.R, Nat.reduceEqDiff, ↓reduceIte, reduceCtorEq, Int.reduceToNat, Int.reduceLE, Int.reduceLT, Nat.reduceLeDiff, Nat.reduceAdd, Nat.reduceMul, Int.reduceBNe, Int.reduceBEq, Int.cast_ofNat_Int, decide_true, decide_false, ne_eq, eq_self, implies_true, dc16_r0, dc16_r1, dc16_r2, dc16_r3, dc16_r4, dc16_r6, dc16_r7, dc16_r5, dc16_r8, dc16, DL.dI, DL.dB, DL.dS]
  refine for_i 5 a.length (fun k s' H' => H' = H ∧ s' 0 = .sl (rulesD a) ∧ s' 1 = .sl (rulesD b) ∧ ∀ j, j < k → ∀ (h : j < a.length) (h' : j < b.length), sameRule (a[j]'h) (b[j]'h') = true) ?_ ?_ ?_
  · simp -dsimp -implicitDefEqProofs (maxSteps := 1000000) (disch := first | omega | (simp only [List.length_append, List.length_cons, List.length_nil]; omega) | (intros; simp only [ne_eq, reduceCtorEq, not_false_eq_true] <;> fail)) only [DL.R, Nat.reduceEqDiff, ↓reduceIte, reduceCtorEq, Int.reduceToNat, Int.reduceLE, Int.reduceLT, Nat.reduceLeDiff, Nat.reduceAdd, Nat.reduceMul, Int.reduceBNe, Int.reduceBEq, Int.cast_ofNat_Int, decide_true, decide_false, ne_eq, eq_self, implies_true, DL.dI, DL.dB, DL.dS]
  · simp -dsimp -implicitDefEqProofs (maxSteps := 1000000) (disch := first | omega | (simp only [List.length_append, List.length_cons, List.length_nil]; omega) | (intros; simp only [ne_eq, reduceCtorEq, not_false_eq_true] <;> fail)) only [DL.R, Nat.reduceEqDiff, ↓reduceIte, reduceCtorEq, Int.reduceToNat, Int.reduceLE, Int.reduceLT, Nat.reduceLeDiff, Nat.reduceAdd, Nat.reduceMul, Int.reduceBNe, Int.reduceBEq, Int.cast_ofNat_Int, decide_true, decide_false, ne_eq, eq_self, implies_true, DL.dI, DL.dB, DL.dS, DL.dI]
    exact fun j hj => absurd hj (by omega)
  · rintro k s' H' hk ht ⟨rfl, h0, h1, hP⟩
    simp -dsimp -implicitDefEqProofs (maxSteps := 1000000) (disch := first | omega | (simp only [List.length_append, List.length_cons, List.length_nil]; omega) | (intros; simp only [ne_eq, reduceCtorEq, not_false_eq_true] <;> fail)) only [DL.R, Nat.reduceEqDiff, ↓reduceIte, reduceCtorEq, Int.reduceToNat, Int.reduceLE, Int.reduceLT, Nat.reduceLeDiff, Nat.reduceAdd, Nat.reduceMul, Int.reduceBNe, Int.reduceBEq, Int.cast_ofNat_Int, decide_true, decide_false, ne_eq, eq_self, implies_true, dc16_r0, dc16_r1, dc16_r2, dc16_r3, dc16_r4, dc16_r6, dc16_r7, dc16_r5, dc16_r8, dc16, DL.dI, DL.dB, DL.dS, DL.dI, h0, h1, ht, rules_len]
    refine onB_i (fun c => ?_) (fun c => ?_)
    · have c1 : k < a.length := by simpa using c
      have c2 : k < b.length := by omega
      simp -dsimp -implicitDefEqProofs (maxSteps := 1000000) (disch := first | omega | (simp only [List.length_append, List.length_cons, List.length_nil]; omega) | (intros; simp only [ne_eq, reduceCtorEq, not_false_eq_true] <;> fail)) only [DL.R, Nat.reduceEqDiff, ↓reduceIte, reduceCtorEq, Int.reduceToNat, Int.reduceLE, Int.reduceLT, Nat.reduceLeDiff, Nat.reduceAdd, Nat.reduceMul, Int.reduceBNe, Int.reduceBEq, Int.cast_ofNat_Int, decide_true, decide_false, ne_eq, eq_self, implies_true, dc16_r0, dc16_r1, dc16_r2, dc16_r3, dc16_r4, dc16_r6, dc16_r7, dc16_r5, dc16_r8, dc16, DL.dI, DL.dB, DL.dS, DL.dI, h0, h1, ht, rules_len]
      have hwk := hw _ (List.getElem_mem c1)
      refine onIdx_i (by omega) (by simpa using rules_get c1) ?_
      have hPk : ∀ j, j < k + 1 → sameRule a[k] b[k] = true → ∀ (h : j < a.length) (h' : j < b.length), sameRule (a[j]'h) (b[j]'h') = true := fun j hj hs h h' => by
        by_cases hjk : j < k
        · exact hP j hjk h h'
        · have : j = k := by omega
          subst this; exact hs
      have hno : sameRule a[k] b[k] = false → sameRules a b = false := fun hs => by
        rw [← Bool.not_eq_true]
        intro q
        simp only [sameRules, Bool.and_eq_true, List.all_eq_true] at q
        have := q.2 (a[k], b[k]) (List.mem_iff_getElem.2 ⟨k, by simp; omega, by simp⟩)
        rw [hs] at this; cases this
      have ga := rules_get c1
      have gb := rules_get c2
      generalize a[k] = r at *
      obtain ⟨rw1, rm, rn, rwho⟩ := r
      simp -dsimp -implicitDefEqProofs (maxSteps := 1000000) (disch := first | omega | (simp only [List.length_append, List.length_cons, List.length_nil]; omega) | (intros; simp only [ne_eq, reduceCtorEq, not_false_eq_true] <;> fail)) only [DL.R, Nat.reduceEqDiff, ↓reduceIte, reduceCtorEq, Int.reduceToNat, Int.reduceLE, Int.reduceLT, Nat.reduceLeDiff, Nat.reduceAdd, Nat.reduceMul, Int.reduceBNe, Int.reduceBEq, Int.cast_ofNat_Int, decide_true, decide_false, ne_eq, eq_self, implies_true, dc16_r0, dc16_r1, dc16_r2, dc16_r3, dc16_r4, dc16_r6, dc16_r7, dc16_r5, dc16_r8, dc16, DL.dI, DL.dB, DL.dS, DL.dI, DL.dS, h0, h1, ht, rules_len, ruleD, ruleL]
      refine onIdx_i (by omega) (by simpa using gb) ?_
      generalize b[k] = q at *
      obtain ⟨qw, qm, qn, qwho⟩ := q
      simp only [ruleD, ruleL, dS, dI] at ga gb
      have out : ∀ x : Bool, sameRule ⟨rw1, rm, rn, rwho⟩ ⟨qw, qm, qn, qwho⟩ = x → x = false → Q (dB false) H' := fun x q e => by
        rw [hno (by rw [q, e])] at hQ; exact hQ
      simp -dsimp -implicitDefEqProofs (maxSteps := 1000000) (disch := first | omega | (simp only [List.length_append, List.length_cons, List.length_nil]; omega) | (intros; simp only [ne_eq, reduceCtorEq, not_false_eq_true] <;> fail)) only [DL.R, Nat.reduceEqDiff, ↓reduceIte, reduceCtorEq, Int.reduceToNat, Int.reduceLE, Int.reduceLT, Nat.reduceLeDiff, Nat.reduceAdd, Nat.reduceMul, Int.reduceBNe, Int.reduceBEq, Int.cast_ofNat_Int, decide_true, decide_false, ne_eq, eq_self, implies_true, dc16_r0, dc16_r1, dc16_r2, dc16_r3, dc16_r4, dc16_r6, dc16_r7, dc16_r5, dc16_r8, dc16, DL.dI, DL.dB, DL.dS, DL.dI, DL.dS, h0, h1, ht, rules_len, ruleD, ruleL]
      refine onG_i (fun e1 => ?_) (fun e1 => ?_)
      · simp -dsimp -implicitDefEqProofs (maxSteps := 1000000) (disch := first | omega | (simp only [List.length_append, List.length_cons, List.length_nil]; omega) | (intros; simp only [ne_eq, reduceCtorEq, not_false_eq_true] <;> fail)) only [DL.R, Nat.reduceEqDiff, ↓reduceIte, reduceCtorEq, Int.reduceToNat, Int.reduceLE, Int.reduceLT, Nat.reduceLeDiff, Nat.reduceAdd, Nat.reduceMul, Int.reduceBNe, Int.reduceBEq, Int.cast_ofNat_Int, decide_true, decide_false, ne_eq, eq_self, implies_true, dc16_r0, dc16_r1, dc16_r2, dc16_r3, dc16_r4, dc16_r6, dc16_r7, dc16_r5, dc16_r8, dc16, DL.dI, DL.dB, DL.dS, DL.dI, DL.dS, h0, h1, ht]
        refine onIdx_i (by omega) (by simpa using ga) ?_
        simp -dsimp -implicitDefEqProofs (maxSteps := 1000000) (disch := first | omega | (simp only [List.length_append, List.length_cons, List.length_nil]; omega) | (intros; simp only [ne_eq, reduceCtorEq, not_false_eq_true] <;> fail)) only [DL.R, Nat.reduceEqDiff, ↓reduceIte, reduceCtorEq, Int.reduceToNat, Int.reduceLE, Int.reduceLT, Nat.reduceLeDiff, Nat.reduceAdd, Nat.reduceMul, Int.reduceBNe, Int.reduceBEq, Int.cast_ofNat_Int, decide_true, decide_false, ne_eq, eq_self, implies_true, dc16_r0, dc16_r1, dc16_r2, dc16_r3, dc16_r4, dc16_r6, dc16_r7, dc16_r5, dc16_r8, dc16, DL.dI, DL.dB, DL.dS, DL.dI, DL.dS, h0, h1, ht]
        refine onIdx_i (by omega) (by simpa using gb) ?_
        simp -dsimp -implicitDefEqProofs (maxSteps := 1000000) (disch := first | omega | (simp only [List.length_append, List.length_cons, List.length_nil]; omega) | (intros; simp only [ne_eq, reduceCtorEq, not_false_eq_true] <;> fail)) only [DL.R, Nat.reduceEqDiff, ↓reduceIte, reduceCtorEq, Int.reduceToNat, Int.reduceLE, Int.reduceLT, Nat.reduceLeDiff, Nat.reduceAdd, Nat.reduceMul, Int.reduceBNe, Int.reduceBEq, Int.cast_ofNat_Int, decide_true, decide_false, ne_eq, eq_self, implies_true, dc16_r0, dc16_r1, dc16_r2, dc16_r3, dc16_r4, dc16_r6, dc16_r7, dc16_r5, dc16_r8, dc16, DL.dI, DL.dB, DL.dS, DL.dI, DL.dS, h0, h1, ht]
        refine onG_i (fun e2 => ?_) (fun e2 => ?_)
        · simp -dsimp -implicitDefEqProofs (maxSteps := 1000000) (disch := first | omega | (simp only [List.length_append, List.length_cons, List.length_nil]; omega) | (intros; simp only [ne_eq, reduceCtorEq, not_false_eq_true] <;> fail)) only [DL.R, Nat.reduceEqDiff, ↓reduceIte, reduceCtorEq, Int.reduceToNat, Int.reduceLE, Int.reduceLT, Nat.reduceLeDiff, Nat.reduceAdd, Nat.reduceMul, Int.reduceBNe, Int.reduceBEq, Int.cast_ofNat_Int, decide_true, decide_false, ne_eq, eq_self, implies_true, dc16_r0, dc16_r1, dc16_r2, dc16_r3, dc16_r4, dc16_r6, dc16_r7, dc16_r5, dc16_r8, dc16, DL.dI, DL.dB, DL.dS, DL.dI, DL.dS, h0, h1, ht]
          refine onIdx_i (by omega) (by simpa using ga) ?_
          simp -dsimp -implicitDefEqProofs (maxSteps := 1000000) (disch := first | omega | (simp only [List.length_append, List.length_cons, List.length_nil]; omega) | (intros; simp only [ne_eq, reduceCtorEq, not_false_eq_true] <;> fail)) only [DL.R, Nat.reduceEqDiff, ↓reduceIte, reduceCtorEq, Int.reduceToNat, Int.reduceLE, Int.reduceLT, Nat.reduceLeDiff, Nat.reduceAdd, Nat.reduceMul, Int.reduceBNe, Int.reduceBEq, Int.cast_ofNat_Int, decide_true, decide_false, ne_eq, eq_self, implies_true, dc16_r0, dc16_r1, dc16_r2, dc16_r3, dc16_r4, dc16_r6, dc16_r7, dc16_r5, dc16_r8, dc16, DL.dI, DL.dB, DL.dS, DL.dI, DL.dS, h0, h1, ht]
          refine onIdx_i (by omega) (by simpa using gb) ?_
          simp -dsimp -implicitDefEqProofs (maxSteps := 1000000) (disch := first | omega | (simp only [List.length_append, List.length_cons, List.length_nil]; omega) | (intros; simp only [ne_eq, reduceCtorEq, not_false_eq_true] <;> fail)) only [DL.R, Nat.reduceEqDiff, ↓reduceIte, reduceCtorEq, Int.reduceToNat, Int.reduceLE, Int.reduceLT, Nat.reduceLeDiff, Nat.reduceAdd, Nat.reduceMul, Int.reduceBNe, Int.reduceBEq, Int.cast_ofNat_Int, decide_true, decide_false, ne_eq, eq_self, implies_true, dc16_r0, dc16_r1, dc16_r2, dc16_r3, dc16_r4, dc16_r6, dc16_r7, dc16_r5, dc16_r8, dc16, DL.dI, DL.dB, DL.dS, DL.dI, DL.dS, h0, h1, ht]
          refine onG_i (fun e3 => ?_) (fun e3 => ?_)
          · simp -dsimp -implicitDefEqProofs (maxSteps := 1000000) (disch := first | omega | (simp only [List.length_append, List.length_cons, List.length_nil]; omega) | (intros; simp only [ne_eq, reduceCtorEq, not_false_eq_true] <;> fail)) only [DL.R, Nat.reduceEqDiff, ↓reduceIte, reduceCtorEq, Int.reduceToNat, Int.reduceLE, Int.reduceLT, Nat.reduceLeDiff, Nat.reduceAdd, Nat.reduceMul, Int.reduceBNe, Int.reduceBEq, Int.cast_ofNat_Int, decide_true, decide_false, ne_eq, eq_self, implies_true, dc16_r0, dc16_r1, dc16_r2, dc16_r3, dc16_r4, dc16_r6, dc16_r7, dc16_r5, dc16_r8, dc16, DL.dI, DL.dB, DL.dS, DL.dI, DL.dS, h0, h1, ht]
            refine onIdx_i (by omega) (by simpa using ga) ?_
            simp -dsimp -implicitDefEqProofs (maxSteps := 1000000) (disch := first | omega | (simp only [List.length_append, List.length_cons, List.length_nil]; omega) | (intros; simp only [ne_eq, reduceCtorEq, not_false_eq_true] <;> fail)) only [DL.R, Nat.reduceEqDiff, ↓reduceIte, reduceCtorEq, Int.reduceToNat, Int.reduceLE, Int.reduceLT, Nat.reduceLeDiff, Nat.reduceAdd, Nat.reduceMul, Int.reduceBNe, Int.reduceBEq, Int.cast_ofNat_Int, decide_true, decide_false, ne_eq, eq_self, implies_true, dc16_r0, dc16_r1, dc16_r2, dc16_r3, dc16_r4, dc16_r6, dc16_r7, dc16_r5, dc16_r8, dc16, DL.dI, DL.dB, DL.dS, DL.dI, DL.dS, h0, h1, ht]
            refine onIdx_i (by omega) (by simpa using gb) ?_
            simp -dsimp -implicitDefEqProofs (maxSteps := 1000000) (disch := first | omega | (simp only [List.length_append, List.length_cons, List.length_nil]; omega) | (intros; simp only [ne_eq, reduceCtorEq, not_false_eq_true] <;> fail)) only [DL.R, Nat.reduceEqDiff, ↓reduceIte, reduceCtorEq, Int.reduceToNat, Int.reduceLE, Int.reduceLT, Nat.reduceLeDiff, Nat.reduceAdd, Nat.reduceMul, Int.reduceBNe, Int.reduceBEq, Int.cast_ofNat_Int, decide_true, decide_false, ne_eq, eq_self, implies_true, dc16_r0, dc16_r1, dc16_r2, dc16_r3, dc16_r4, dc16_r6, dc16_r7, dc16_r5, dc16_r8, dc16, DL.dI, DL.dB, DL.dS, DL.dI, DL.dS, h0, h1, ht]
            refine callD_i (CA := CallA Tryd.prog G) (f := 34) (caps := []) (args := [.sl (ints rwho), .sl (ints qwho)]) (dB (rwho == qwho)) (fun Q hQ => sameInts_spec rwho qwho (by simp at hwk; omega) hQ) ?_
            simp -dsimp -implicitDefEqProofs (maxSteps := 1000000) (disch := first | omega | (simp only [List.length_append, List.length_cons, List.length_nil]; omega) | (intros; simp only [ne_eq, reduceCtorEq, not_false_eq_true] <;> fail)) only [DL.R, Nat.reduceEqDiff, ↓reduceIte, reduceCtorEq, Int.reduceToNat, Int.reduceLE, Int.reduceLT, Nat.reduceLeDiff, Nat.reduceAdd, Nat.reduceMul, Int.reduceBNe, Int.reduceBEq, Int.cast_ofNat_Int, decide_true, decide_false, ne_eq, eq_self, implies_true, dc16_r0, dc16_r1, dc16_r2, dc16_r3, dc16_r4, dc16_r6, dc16_r7, dc16_r5, dc16_r8, dc16, DL.dI, DL.dB, DL.dS, DL.dI, DL.dS, DL.dB, h0, h1, ht]
            refine onB_i (fun e4 => ?_) (fun e4 => ?_)
            · simp -dsimp -implicitDefEqProofs (maxSteps := 1000000) (disch := first | omega | (simp only [List.length_append, List.length_cons, List.length_nil]; omega) | (intros; simp only [ne_eq, reduceCtorEq, not_false_eq_true] <;> fail)) only [DL.R, Nat.reduceEqDiff, ↓reduceIte, reduceCtorEq, Int.reduceToNat, Int.reduceLE, Int.reduceLT, Nat.reduceLeDiff, Nat.reduceAdd, Nat.reduceMul, Int.reduceBNe, Int.reduceBEq, Int.cast_ofNat_Int, decide_true, decide_false, ne_eq, eq_self, implies_true, dc16_r0, dc16_r1, dc16_r2, dc16_r3, dc16_r4, dc16_r6, dc16_r7, dc16_r5, dc16_r8, dc16, DL.dI, DL.dB, DL.dS, DL.dI, DL.dS, DL.dB, h0, h1, ht]
              exact out _ rfl (by simp [sameRule] at e4 ⊢; simp [e4])
            · have hs : sameRule ⟨rw1, rm, rn, rwho⟩ ⟨qw, qm, qn, qwho⟩ = true := by
                simp at e1 e2 e3 e4; simp [sameRule, e1, e2, e3, e4]
              simp -dsimp -implicitDefEqProofs (maxSteps := 1000000) (disch := first | omega | (simp only [List.length_append, List.length_cons, List.length_nil]; omega) | (intros; simp only [ne_eq, reduceCtorEq, not_false_eq_true] <;> fail)) only [DL.R, Nat.reduceEqDiff, ↓reduceIte, reduceCtorEq, Int.reduceToNat, Int.reduceLE, Int.reduceLT, Nat.reduceLeDiff, Nat.reduceAdd, Nat.reduceMul, Int.reduceBNe, Int.reduceBEq, Int.cast_ofNat_Int, decide_true, decide_false, ne_eq, eq_self, implies_true, dc16_r0, dc16_r1, dc16_r2, dc16_r3, dc16_r4, dc16_r6, dc16_r7, dc16_r5, dc16_r8, dc16, DL.dI, DL.dB, DL.dS, DL.dI, DL.dS, DL.dB, h0, h1, ht, DL.wrap_id]
              exact ⟨c1, fun j hj => hPk j hj hs⟩
          · simp -dsimp -implicitDefEqProofs (maxSteps := 1000000) (disch := first | omega | (simp only [List.length_append, List.length_cons, List.length_nil]; omega) | (intros; simp only [ne_eq, reduceCtorEq, not_false_eq_true] <;> fail)) only [DL.R, Nat.reduceEqDiff, ↓reduceIte, reduceCtorEq, Int.reduceToNat, Int.reduceLE, Int.reduceLT, Nat.reduceLeDiff, Nat.reduceAdd, Nat.reduceMul, Int.reduceBNe, Int.reduceBEq, Int.cast_ofNat_Int, decide_true, decide_false, ne_eq, eq_self, implies_true, dc16_r0, dc16_r1, dc16_r2, dc16_r3, dc16_r4, dc16_r6, dc16_r7, dc16_r5, dc16_r8, dc16, DL.dI, DL.dB, DL.dS, DL.dI, DL.dS, DL.dB, h0, h1, ht]
            exact out _ rfl (by simp [sameRule] at e3 ⊢; simp [e3])
        · simp -dsimp -implicitDefEqProofs (maxSteps := 1000000) (disch := first | omega | (simp only [List.length_append, List.length_cons, List.length_nil]; omega) | (intros; simp only [ne_eq, reduceCtorEq, not_false_eq_true] <;> fail)) only [DL.R, Nat.reduceEqDiff, ↓reduceIte, reduceCtorEq, Int.reduceToNat, Int.reduceLE, Int.reduceLT, Nat.reduceLeDiff, Nat.reduceAdd, Nat.reduceMul, Int.reduceBNe, Int.reduceBEq, Int.cast_ofNat_Int, decide_true, decide_false, ne_eq, eq_self, implies_true, dc16_r0, dc16_r1, dc16_r2, dc16_r3, dc16_r4, dc16_r6, dc16_r7, dc16_r5, dc16_r8, dc16, DL.dI, DL.dB, DL.dS, DL.dI, DL.dS, DL.dB, h0, h1, ht]
          exact out _ rfl (by simp [sameRule] at e2 ⊢; simp [e2])
      · simp -dsimp -implicitDefEqProofs (maxSteps := 1000000) (disch := first | omega | (simp only [List.length_append, List.length_cons, List.length_nil]; omega) | (intros; simp only [ne_eq, reduceCtorEq, not_false_eq_true] <;> fail)) only [DL.R, Nat.reduceEqDiff, ↓reduceIte, reduceCtorEq, Int.reduceToNat, Int.reduceLE, Int.reduceLT, Nat.reduceLeDiff, Nat.reduceAdd, Nat.reduceMul, Int.reduceBNe, Int.reduceBEq, Int.cast_ofNat_Int, decide_true, decide_false, ne_eq, eq_self, implies_true, dc16_r0, dc16_r1, dc16_r2, dc16_r3, dc16_r4, dc16_r6, dc16_r7, dc16_r5, dc16_r8, dc16, DL.dI, DL.dB, DL.dS, DL.dI, DL.dS, DL.dB, h0, h1, ht]
        exact out _ rfl (by simp [sameRule] at e1 ⊢; simp [e1])
    · have c1 : ¬ k < a.length := by simpa using c
      simp -dsimp -implicitDefEqProofs (maxSteps := 1000000) (disch := first | omega | (simp only [List.length_append, List.length_cons, List.length_nil]; omega) | (intros; simp only [ne_eq, reduceCtorEq, not_false_eq_true] <;> fail)) only [DL.R, Nat.reduceEqDiff, ↓reduceIte, reduceCtorEq, Int.reduceToNat, Int.reduceLE, Int.reduceLT, Nat.reduceLeDiff, Nat.reduceAdd, Nat.reduceMul, Int.reduceBNe, Int.reduceBEq, Int.cast_ofNat_Int, decide_true, decide_false, ne_eq, eq_self, implies_true, dc16_r0, dc16_r1, dc16_r2, dc16_r3, dc16_r4, dc16_r6, dc16_r7, dc16_r5, dc16_r8, dc16, DL.dI, DL.dB, DL.dS, DL.dI, h0, h1, ht, rules_len]
      have : sameRules a b = true := by
        simp only [sameRules, Bool.and_eq_true, List.all_eq_true, beq_iff_eq]
        refine ⟨c', fun p hp => ?_⟩
        obtain ⟨j, hj, rfl⟩ := List.mem_iff_getElem.1 hp
        simp only [List.length_zip] at hj
        simpa using hP j (by omega) (by omega) (by omega)
      rw [this] at hQ; exact hQ
end Go.Proofs.Tryd
set_option maxRecDepth 100000
set_option linter.unusedSimpArgs false
set_option linter.unusedVariables false
namespace Go.Proofs.Tryd
open Go Go.DL
variable {G : Nat → D} {H : List O} {Q : D → List O → Prop}
theorem ints_snoc (l : List Int) (x : Int) : ints (l ++ [x]) = ints l ++ [dI x] := by simp [ints]
def digitS (n : Int) : List UInt8 := [UInt8.ofNat (48 + n.toNat)]
theorem digit36_spec (n : Int) (h0 : 0 ≤ n) (h1 : n ≤ 9) (hQ : Q (dS (str (digitS n))) H) : CallA Tryd.prog G 26 [dI n] H Q := by
  refine s26 (Nat.le_of_ble_eq_true rfl) ?_
  have e : IntKind.u8.wrap (48 + n) = ((UInt8.ofNat (48 + n.toNat)).toNat : Int) := by
    have : IntKind.u8.wrap (48 + n) = (48 + n) % 256 := rfl
    rw [this, UInt8.toNat_ofNat']; omega
  simp -dsimp -implicitDefEqProofs (maxSteps := 1000000) (disch := first | omega | (simp only [List.length_append, List.length_cons, List.length_nil]; omega) | (intros; simp only [ne_eq, reduceCtorEq, not_false_eq_true] <;> fail)) only [DL.R, Nat.reduceEqDiff, ↓reduceIte, reduceCtorEq, Int.reduceToNat, Int.reduceLE, Int.reduceLT, Nat.reduceLeDiff, Nat.reduceAdd, Nat.reduceMul, Int.reduceBNe, Int.reduceBEq, Int.cast_ofNat_Int, decide_true, decide_false, ne_eq, eq_self, implies_true, dc26_r0, dc26_r1, dc26, DL.dI, DL.dB, DL.dS, DL.wrap_id, e]
  refine str_i [UInt8.ofNat (48 + n.toNat)] rfl ?_
  simp -dsimp -implicitDefEqProofs (maxSteps := 1000000) (disch := first | omega | (simp only [List.length_append, List.length_cons, List.length_nil]; omega) | (intros; simp only [ne_eq, reduceCtorEq, not_false_eq_true] <;> fail)) only [DL.R, Nat.reduceEqDiff, ↓reduceIte, reduceCtorEq, Int.reduceToNat, Int.reduceLE, Int.reduceLT, Nat.reduceLeDiff, Nat.reduceAdd, Nat.reduceMul, Int.reduceBNe, Int.reduceBEq, Int.cast_ofNat_Int, decide_true, decide_false, ne_eq, eq_self, implies_true, DL.dI, DL.dB, DL.dS]
  exact hQ
end Go.Proofs.Tryd
set_option maxRecDepth 100000
set_option linter.unusedSimpArgs false
set_option linter.unusedVariables false
namespace Go.Proofs.Tryd
open Go Go.DL
variable {G : Nat → D} {H : List O} {Q : D → List O → Prop}
theorem around_range (n m : Int) (hm : 0 < m) : 0 ≤ around n m ∧ around n m < m := ⟨Int.emod_nonneg _ (by omega), Int.emod_lt_of_pos _ hm⟩
theorem at_range (l : List Int) (i m : Int) (hm : 0 < m) : 0 ≤ at_ l i m ∧ at_ l i m < m := by
  unfold at_
  split
  · exact ⟨by omega, hm⟩
  · exact around_range _ _ hm
def whoN (b w : Nat) : List Int := ((List.range w).filter fun i : Nat => b / 2 ^ i % 2 == 1).map fun i : Nat => (i : Int)
theorem whoN_succ (b w : Nat) : whoN b (w + 1) = if b / 2 ^ w % 2 = 1 then whoN b w ++ [(w : Int)] else whoN b w := by
  unfold whoN
  rw [List.range_succ, List.filter_append, List.map_append]
  by_cases h : b / 2 ^ w % 2 = 1 <;> simp [h]
theorem whoN_len (b w : Nat) : (whoN b w).length ≤ w := by
  unfold whoN
  rw [List.length_map]
  have := List.length_filter_le (fun i => b / 2 ^ i % 2 == 1) (List.range w)
  simpa using this
theorem whoN_pos : ∀ b : Nat, b < 256 → 1 ≤ b → 1 ≤ (whoN b 8).length := by decide
def ruleWho (l : List Int) (i : Nat) : List Int := whoN (1 + (at_ l (17 + i) 255).toNat) 8
def ruleF (l : List Int) (names : List (List UInt8)) (i : Nat) : Rule :=
  ⟨str (whatsL.getD (at_ l (1 + i) 7).toNat []), str (if at_ l (9 + i) (2 * names.length + 1) < names.length then names.getD (at_ l (9 + i) (2 * names.length + 1)).toNat [] else []), 1 + at_ l (25 + i) (ruleWho l i).length, ruleWho l i⟩
def rulesF (l : List Int) (names : List (List UInt8)) (most : Int) : List Rule := (List.range (at_ l 0 (most + 1)).toNat).map (ruleF l names)
theorem ruleWho_pos (l : List Int) (i : Nat) : 1 ≤ (ruleWho l i).length := by
  have := at_range l (17 + i) 255 (by omega)
  exact whoN_pos _ (by omega) (by omega)
theorem tmod_two (m : Nat) : ((m : Int).tmod 2 == 1) = (m % 2 == 1) := by
  rw [Int.tmod_eq_emod_of_nonneg (by omega), Bool.eq_iff_iff]; simp; omega
theorem tdiv_two (m : Nat) (h : m ≤ 1099511627776) : IntKind.i64.wrap ((m : Int).tdiv 2) = ((m / 2 : Nat) : Int) := by
  rw [Int.tdiv_eq_ediv_of_nonneg (by omega), wrap_id (by omega) (by omega)]; simp
theorem rulesD_snoc (a : List Rule) (r : Rule) : rulesD (a ++ [r]) = rulesD a ++ [ruleD r] := by simp [rulesD]
theorem below_rules (n : Nat) (l : List Rule) : Below n (.sl (rulesD l)) := by
  simp [below_sl, below_lit, rulesD, ruleD, ruleL, D.leaves, ints]
theorem rules_spec (l : List Int) (hl : ∀ n ∈ l, I64 n) (hll : l.length ≤ 1099511627776) (names : List (List UInt8)) (hn : names.length ≤ 1099511627776) (most : Int) (hm0 : 0 ≤ most) (hm1 : most ≤ 1048576) (hQ : Q (.sl (rulesD (rulesF l names most))) H) :
    CallA Tryd.prog G 9 [.sl (ints l), .sl (strs names), dI most] H Q := by
  refine CallA.deep (s9 (Nat.le_of_ble_eq_true rfl) ?_)
  simp -dsimp -implicitDefEqProofs (maxSteps := 1000000) (disch := first | omega | (simp only [List.length_append, List.length_cons, List.length_nil]; omega) | (intros; simp only [ne_eq, reduceCtorEq, not_false_eq_true] <;> fail)) only [DL.R, Nat.reduceEqDiff, ↓reduceIte, reduceCtorEq, Int.reduceToNat, Int.reduceLE, Int.reduceLT, Nat.reduceLeDiff, Nat.reduceAdd, Nat.reduceMul, Int.reduceBNe, Int.reduceBEq, Int.cast_ofNat_Int, decide_true, decide_false, ne_eq, eq_self, implies_true, dc9_r0, dc9_r1, dc9_r2, dc9_r3, dc9_r4, dc9_r6, dc9_r7, dc9_r8, dc9_r9, dc9_r10, dc9_r11, dc9_r12, dc9_r14, dc9_r15, dc9_r16, dc9_r13, dc9_r17, dc9_r18, dc9_r5, dc9_r19, dc9, DL.dI, DL.dB, DL.dS, DL.wrap_id]
  refine ⟨by omega, ?_⟩
  refine at_spec l 0 (most + 1) hl (by omega) (by omega) ?_
  obtain ⟨N, hN⟩ : ∃ N : Nat, at_ l 0 (most + 1) = (N : Int) := ⟨(at_ l 0 (most + 1)).toNat, by have := at_range l 0 (most + 1) (by omega); omega⟩
  have hNm : (N : Int) ≤ most := by have := at_range l 0 (most + 1) (by omega); omega
  have hres : rulesF l names most = (List.range N).map (ruleF l names) := by unfold rulesF; rw [hN]; simp
  rw [hN]
  simp -dsimp -implicitDefEqProofs (maxSteps := 1000000) (disch := first | omega | (simp only [List.length_append, List.length_cons, List.length_nil]; omega) | (intros; simp only [ne_eq, reduceCtorEq, not_false_eq_true] <;> fail)) only [DL.R, Nat.reduceEqDiff, ↓reduceIte, reduceCtorEq, Int.reduceToNat, Int.reduceLE, Int.reduceLT, Nat.reduceLeDiff, Nat.reduceAdd, Nat.reduceMul, Int.reduceBNe, Int.reduceBEq, Int.cast_ofNat_Int, decide_true, decide_false, ne_eq, eq_self, implies_true, dc9_r0, dc9_r1, dc9_r2, dc9_r3, dc9_r4, dc9_r6, dc9_r7, dc9_r8, dc9_r9, dc9_r10, dc9_r11, dc9_r12, dc9_r14, dc9_r15, dc9_r16, dc9_r13, dc9_r17, dc9_r18, dc9_r5, dc9_r19, dc9, DL.dI, DL.dB, DL.dS]
  refine for_i 9 N (fun k s' H' => s' 0 = .sl (ints l) ∧ s' 1 = .sl (strs names) ∧ s' 8 = dI N ∧ ∃ ver Gs, s' 7 = .row H.length ver ∧ H' = H ++ (.row true ver 42 4 (rulesD ((List.range k).map (ruleF l names))) :: Gs)) ?_ ?_ ?_
  · simp -dsimp -implicitDefEqProofs (maxSteps := 1000000) (disch := first | omega | (simp only [List.length_append, List.length_cons, List.length_nil]; omega) | (intros; simp only [ne_eq, reduceCtorEq, not_false_eq_true] <;> fail)) only [DL.R, Nat.reduceEqDiff, ↓reduceIte, reduceCtorEq, Int.reduceToNat, Int.reduceLE, Int.reduceLT, Nat.reduceLeDiff, Nat.reduceAdd, Nat.reduceMul, Int.reduceBNe, Int.reduceBEq, Int.cast_ofNat_Int, decide_true, decide_false, ne_eq, eq_self, implies_true, DL.dI, DL.dB, DL.dS]
  · simp -dsimp -implicitDefEqProofs (maxSteps := 1000000) (disch := first | omega | (simp only [List.length_append, List.length_cons, List.length_nil]; omega) | (intros; simp only [ne_eq, reduceCtorEq, not_false_eq_true] <;> fail)) only [DL.R, Nat.reduceEqDiff, ↓reduceIte, reduceCtorEq, Int.reduceToNat, Int.reduceLE, Int.reduceLT, Nat.reduceLeDiff, Nat.reduceAdd, Nat.reduceMul, Int.reduceBNe, Int.reduceBEq, Int.cast_ofNat_Int, decide_true, decide_false, ne_eq, eq_self, implies_true, DL.dI, DL.dB, DL.dS]
    exact ⟨0, [], rfl, rfl⟩
  · rintro k s' H' hk ht ⟨h0, h1, h8, ver, Gs, h7, rfl⟩
    by_cases c : k < N
    · have c1 : decide ((k : Int) < (N : Int)) = true := by simp; omega
      simp -dsimp -implicitDefEqProofs (maxSteps := 1000000) (disch := first | omega | (simp only [List.length_append, List.length_cons, List.length_nil]; omega) | (intros; simp only [ne_eq, reduceCtorEq, not_false_eq_true] <;> fail)) only [DL.R, Nat.reduceEqDiff, ↓reduceIte, reduceCtorEq, Int.reduceToNat, Int.reduceLE, Int.reduceLT, Nat.reduceLeDiff, Nat.reduceAdd, Nat.reduceMul, Int.reduceBNe, Int.reduceBEq, Int.cast_ofNat_Int, decide_true, decide_false, ne_eq, eq_self, implies_true, dc9_r0, dc9_r1, dc9_r2, dc9_r3, dc9_r4, dc9_r6, dc9_r7, dc9_r8, dc9_r9, dc9_r10, dc9_r11, dc9_r12, dc9_r14, dc9_r15, dc9_r16, dc9_r13, dc9_r17, dc9_r18, dc9_r5, dc9_r19, dc9, DL.dI, DL.dB, DL.dS, h0, h1, h7, h8, ht, c1]
      refine whats_spec ?_
      simp -dsimp -implicitDefEqProofs (maxSteps := 1000000) (disch := first | omega | (simp only [List.length_append, List.length_cons, List.length_nil]; omega) | (intros; simp only [ne_eq, reduceCtorEq, not_false_eq_true] <;> fail)) only [DL.R, Nat.reduceEqDiff, ↓reduceIte, reduceCtorEq, Int.reduceToNat, Int.reduceLE, Int.reduceLT, Nat.reduceLeDiff, Nat.reduceAdd, Nat.reduceMul, Int.reduceBNe, Int.reduceBEq, Int.cast_ofNat_Int, decide_true, decide_false, ne_eq, eq_self, implies_true, dc9_r0, dc9_r1, dc9_r2, dc9_r3, dc9_r4, dc9_r6, dc9_r7, dc9_r8, dc9_r9, dc9_r10, dc9_r11, dc9_r12, dc9_r14, dc9_r15, dc9_r16, dc9_r13, dc9_r17, dc9_r18, dc9_r5, dc9_r19, dc9, DL.dI, DL.dB, DL.dS, h0, h1, h7, h8, ht, DL.wrap_id]
      refine at_spec l _ 7 hl (by omega) (by omega) ?_
      have r1 := at_range l (1 + k) 7 (by omega)
      have hw7 : whatsL.length = 7 := rfl
      unfold strs
      simp -dsimp -implicitDefEqProofs (maxSteps := 1000000) (disch := first | omega | (simp only [List.length_append, List.length_cons, List.length_nil]; omega) | (intros; simp only [ne_eq, reduceCtorEq, not_false_eq_true] <;> fail)) only [DL.R, Nat.reduceEqDiff, ↓reduceIte, reduceCtorEq, Int.reduceToNat, Int.reduceLE, Int.reduceLT, Nat.reduceLeDiff, Nat.reduceAdd, Nat.reduceMul, Int.reduceBNe, Int.reduceBEq, Int.cast_ofNat_Int, decide_true, decide_false, ne_eq, eq_self, implies_true, dc9_r0, dc9_r1, dc9_r2, dc9_r3, dc9_r4, dc9_r6, dc9_r7, dc9_r8, dc9_r9, dc9_r10, dc9_r11, dc9_r12, dc9_r14, dc9_r15, dc9_r16, dc9_r13, dc9_r17, dc9_r18, dc9_r5, dc9_r19, dc9, DL.dI, DL.dB, DL.dS, h0, h1, h7, h8, ht, strs_len, DL.wrap_id]
      have hgd : whatsL.getD (at_ l (1 + k) 7).toNat [] = whatsL[(at_ l (1 + k) 7).toNat]'(by omega) := by
        rw [List.getD_eq_getElem?_getD, List.getElem?_eq_getElem (by omega)]; rfl
      rw [← hgd]
      have hwh : str (whatsL.getD (at_ l (1 + k) 7).toNat []) = (ruleF l names k).what := rfl
      rw [hwh]
      have r9 := at_range l (9 + k) (2 * names.length + 1) (by omega)
      have hln : (names.map fun x => D.lit (.string (str x))).length = names.length := by simp
      refine ⟨by omega, ?_⟩
      refine at_spec l _ _ hl (by omega) (by omega) ?_
      obtain ⟨K, hK⟩ : ∃ K, at_ l (9 + k) (2 * names.length + 1) = K := ⟨_, rfl⟩
      rw [hK] at r9
      have hmod : ∀ m, (m = if K < names.length then names.getD K.toNat [] else []) → str m = (ruleF l names k).mod := fun m hm => by rw [hm, ← hK]; rfl
      have r17 := at_range l (17 + k) 255 (by omega)
      obtain ⟨b, hb⟩ : ∃ b : Nat, 1 + at_ l (17 + k) 255 = (b : Int) := ⟨1 + (at_ l (17 + k) 255).toNat, by omega⟩
      have hwho : ruleWho l k = whoN b 8 := by unfold ruleWho; congr 1; omega
      have hpos := ruleWho_pos l k
      have hil8 : (ints (whoN b 8)).length = (whoN b 8).length := by simp [ints]
      have hl8 := whoN_len b 8
      have r25 := at_range l (25 + k) (ruleWho l k).length (by omega)
      have ht0 : (List.take K.toNat (strs names)).length = K.toNat → True := fun _ => trivial
      by_cases cK : K < names.length
      · have e1 : decide (K < (names.length : Int)) = true := by simp; omega
        have hgn : str (names[K.toNat]'(by omega)) = (ruleF l names k).mod := by
          refine hmod _ ?_
          rw [if_pos cK, List.getD_eq_getElem?_getD, List.getElem?_eq_getElem (by omega)]; rfl
        unfold strs at h1
        simp -dsimp -implicitDefEqProofs (maxSteps := 1000000) (disch := first | omega | (simp only [List.length_append, List.length_cons, List.length_nil]; omega) | (intros; simp only [ne_eq, reduceCtorEq, not_false_eq_true] <;> fail)) only [DL.R, Nat.reduceEqDiff, ↓reduceIte, reduceCtorEq, Int.reduceToNat, Int.reduceLE, Int.reduceLT, Nat.reduceLeDiff, Nat.reduceAdd, Nat.reduceMul, Int.reduceBNe, Int.reduceBEq, Int.cast_ofNat_Int, decide_true, decide_false, ne_eq, eq_self, implies_true, dc9_r0, dc9_r1, dc9_r2, dc9_r3, dc9_r4, dc9_r6, dc9_r7, dc9_r8, dc9_r9, dc9_r10, dc9_r11, dc9_r12, dc9_r14, dc9_r15, dc9_r16, dc9_r13, dc9_r17, dc9_r18, dc9_r5, dc9_r19, dc9, DL.dI, DL.dB, DL.dS, h0, h1, h7, h8, ht, strs_len, hK, e1, hgn, DL.wrap_id]
        change s' 1 = .sl (strs names) at h1
        refine at_spec l _ _ hl (by omega) (by omega) ?_
        simp -dsimp -implicitDefEqProofs (maxSteps := 1000000) (disch := first | omega | (simp only [List.length_append, List.length_cons, List.length_nil]; omega) | (intros; simp only [ne_eq, reduceCtorEq, not_false_eq_true] <;> fail)) only [DL.R, Nat.reduceEqDiff, ↓reduceIte, reduceCtorEq, Int.reduceToNat, Int.reduceLE, Int.reduceLT, Nat.reduceLeDiff, Nat.reduceAdd, Nat.reduceMul, Int.reduceBNe, Int.reduceBEq, Int.cast_ofNat_Int, decide_true, decide_false, ne_eq, eq_self, implies_true, dc9_r0, dc9_r1, dc9_r2, dc9_r3, dc9_r4, dc9_r6, dc9_r7, dc9_r8, dc9_r9, dc9_r10, dc9_r11, dc9_r12, dc9_r14, dc9_r15, dc9_r16, dc9_r13, dc9_r17, dc9_r18, dc9_r5, dc9_r19, dc9, DL.dI, DL.dB, DL.dS, h0, h1, h7, h8, ht, hb, DL.wrap_id]
        refine for_i 13 8 (fun w s'' H'' => s'' 0 = .sl (ints l) ∧ s'' 1 = .sl (strs names) ∧ s'' 8 = dI N ∧ s'' 9 = dI k ∧ s'' 7 = .row H.length ver ∧ s'' 10 = .ptr (H.length + (Gs.length + 1)) 0 ∧ s'' 12 = dI ((b / 2 ^ w : Nat) : Int) ∧
            ∃ v, H'' = H ++ (.row true ver 42 4 (rulesD ((List.range k).map (ruleF l names))) :: (Gs ++ [.box 42 [dS (ruleF l names k).what, dS (ruleF l names k).mod, dI 0, .row (H.length + (Gs.length + 1 + 1)) v], .row true v 3 1 (ints (whoN b w))]))) ?_ ?_ ?_
        · simp -dsimp -implicitDefEqProofs (maxSteps := 1000000) (disch := first | omega | (simp only [List.length_append, List.length_cons, List.length_nil]; omega) | (intros; simp only [ne_eq, reduceCtorEq, not_false_eq_true] <;> fail)) only [DL.R, Nat.reduceEqDiff, ↓reduceIte, reduceCtorEq, Int.reduceToNat, Int.reduceLE, Int.reduceLT, Nat.reduceLeDiff, Nat.reduceAdd, Nat.reduceMul, Int.reduceBNe, Int.reduceBEq, Int.cast_ofNat_Int, decide_true, decide_false, ne_eq, eq_self, implies_true, DL.dI, DL.dB, DL.dS]
        · simp -dsimp -implicitDefEqProofs (maxSteps := 1000000) (disch := first | omega | (simp only [List.length_append, List.length_cons, List.length_nil]; omega) | (intros; simp only [ne_eq, reduceCtorEq, not_false_eq_true] <;> fail)) only [DL.R, Nat.reduceEqDiff, ↓reduceIte, reduceCtorEq, Int.reduceToNat, Int.reduceLE, Int.reduceLT, Nat.reduceLeDiff, Nat.reduceAdd, Nat.reduceMul, Int.reduceBNe, Int.reduceBEq, Int.cast_ofNat_Int, decide_true, decide_false, ne_eq, eq_self, implies_true, DL.dI, DL.dB, DL.dS, h0, h1, h7, h8, ht]
          exact ⟨by simp, 0, rfl⟩
        · rintro w s'' H'' hw gt ⟨g0, g1, g8, g9, g7, g10, g12, v, rfl⟩
          have hbw : b / 2 ^ w ≤ b := Nat.div_le_self _ _
          have hbs : b / 2 ^ (w + 1) = b / 2 ^ w / 2 := by rw [Nat.pow_succ, Nat.div_div_eq_div_mul]
          have hwl := whoN_len b w
          have hil : (ints (whoN b w)).length = (whoN b w).length := by simp [ints]
          by_cases cw : w < 8
          · have f1 : decide ((w : Int) < 8) = true := by simp; omega
            have f3 := tdiv_two (b / 2 ^ w) (by omega)
            by_cases cb : b / 2 ^ w % 2 = 1
            · have f2 : (((b / 2 ^ w : Nat) : Int).tmod 2 == 1) = true := by rw [tmod_two]; simp [cb]
              simp -dsimp -implicitDefEqProofs (maxSteps := 1000000) (disch := first | omega | (simp only [List.length_append, List.length_cons, List.length_nil]; omega) | (intros; simp only [ne_eq, reduceCtorEq, not_false_eq_true] <;> fail)) only [DL.R, Nat.reduceEqDiff, ↓reduceIte, reduceCtorEq, Int.reduceToNat, Int.reduceLE, Int.reduceLT, Nat.reduceLeDiff, Nat.reduceAdd, Nat.reduceMul, Int.reduceBNe, Int.reduceBEq, Int.cast_ofNat_Int, decide_true, decide_false, ne_eq, eq_self, implies_true, dc9_r0, dc9_r1, dc9_r2, dc9_r3, dc9_r4, dc9_r6, dc9_r7, dc9_r8, dc9_r9, dc9_r10, dc9_r11, dc9_r12, dc9_r14, dc9_r15, dc9_r16, dc9_r13, dc9_r17, dc9_r18, dc9_r5, dc9_r19, dc9, DL.dI, DL.dB, DL.dS, g0, g1, g8, g9, g7, g10, g12, gt, f1, f2, f3, hil, DL.wrap_id]
              refine ⟨by omega, cw, by rw [hbs], v + 1, ?_⟩
              rw [whoN_succ, if_pos cb, ints_snoc]
            · have f2 : (((b / 2 ^ w : Nat) : Int).tmod 2 == 1) = false := by rw [tmod_two]; simp [cb]
              simp -dsimp -implicitDefEqProofs (maxSteps := 1000000) (disch := first | omega | (simp only [List.length_append, List.length_cons, List.length_nil]; omega) | (intros; simp only [ne_eq, reduceCtorEq, not_false_eq_true] <;> fail)) only [DL.R, Nat.reduceEqDiff, ↓reduceIte, reduceCtorEq, Int.reduceToNat, Int.reduceLE, Int.reduceLT, Nat.reduceLeDiff, Nat.reduceAdd, Nat.reduceMul, Int.reduceBNe, Int.reduceBEq, Int.cast_ofNat_Int, decide_true, decide_false, ne_eq, eq_self, implies_true, dc9_r0, dc9_r1, dc9_r2, dc9_r3, dc9_r4, dc9_r6, dc9_r7, dc9_r8, dc9_r9, dc9_r10, dc9_r11, dc9_r12, dc9_r14, dc9_r15, dc9_r16, dc9_r13, dc9_r17, dc9_r18, dc9_r5, dc9_r19, dc9, DL.dI, DL.dB, DL.dS, g0, g1, g8, g9, g7, g10, g12, gt, f1, f2, f3, DL.wrap_id]
              refine ⟨cw, by rw [hbs], v, ?_⟩
              rw [whoN_succ, if_neg cb]
          · have f1 : decide ((w : Int) < 8) = false := by simp; omega
            have hw8 : w = 8 := by omega
            subst hw8
            simp -dsimp -implicitDefEqProofs (maxSteps := 1000000) (disch := first | omega | (simp only [List.length_append, List.length_cons, List.length_nil]; omega) | (intros; simp only [ne_eq, reduceCtorEq, not_false_eq_true] <;> fail)) only [DL.R, Nat.reduceEqDiff, ↓reduceIte, reduceCtorEq, Int.reduceToNat, Int.reduceLE, Int.reduceLT, Nat.reduceLeDiff, Nat.reduceAdd, Nat.reduceMul, Int.reduceBNe, Int.reduceBEq, Int.cast_ofNat_Int, decide_true, decide_false, ne_eq, eq_self, implies_true, dc9_r0, dc9_r1, dc9_r2, dc9_r3, dc9_r4, dc9_r6, dc9_r7, dc9_r8, dc9_r9, dc9_r10, dc9_r11, dc9_r12, dc9_r14, dc9_r15, dc9_r16, dc9_r13, dc9_r17, dc9_r18, dc9_r5, dc9_r19, dc9, DL.dI, DL.dB, DL.dS, g0, g1, g8, g9, g7, g10, g12, gt, f1, hil8, DL.wrap_id]
            rw [hwho] at hpos r25
            refine at_spec l _ _ hl (by omega) (by omega) ?_
            have hN25 : 1 + at_ l (25 + k) (whoN b 8).length = (ruleF l names k).n := by rw [← hwho]; rfl
            have hlen : (rulesD ((List.range k).map (ruleF l names))).length = k := by simp [rulesD]
            simp -dsimp -implicitDefEqProofs (maxSteps := 1000000) (disch := first | omega | (simp only [List.length_append, List.length_cons, List.length_nil]; omega) | (intros; simp only [ne_eq, reduceCtorEq, not_false_eq_true] <;> fail)) only [DL.R, Nat.reduceEqDiff, ↓reduceIte, reduceCtorEq, Int.reduceToNat, Int.reduceLE, Int.reduceLT, Nat.reduceLeDiff, Nat.reduceAdd, Nat.reduceMul, Int.reduceBNe, Int.reduceBEq, Int.cast_ofNat_Int, decide_true, decide_false, ne_eq, eq_self, implies_true, dc9_r0, dc9_r1, dc9_r2, dc9_r3, dc9_r4, dc9_r6, dc9_r7, dc9_r8, dc9_r9, dc9_r10, dc9_r11, dc9_r12, dc9_r14, dc9_r15, dc9_r16, dc9_r13, dc9_r17, dc9_r18, dc9_r5, dc9_r19, dc9, DL.dI, DL.dB, DL.dS, g0, g1, g8, g9, g7, g10, gt, hN25, hlen, DL.wrap_id]
            refine ⟨by omega, c, rfl, ver + 1, _, rfl, by rw [List.range_succ, List.map_append, List.map_cons, List.map_nil, rulesD_snoc]; unfold ruleD ruleL; rw [show (ruleF l names k).who = whoN b 8 from hwho]⟩
      · have e1 : decide (K < (names.length : Int)) = false := by simp; omega
        have hgn : str [] = (ruleF l names k).mod := by
          refine hmod _ ?_
          rw [if_neg cK]
        simp -dsimp -implicitDefEqProofs (maxSteps := 1000000) (disch := first | omega | (simp only [List.length_append, List.length_cons, List.length_nil]; omega) | (intros; simp only [ne_eq, reduceCtorEq, not_false_eq_true] <;> fail)) only [DL.R, Nat.reduceEqDiff, ↓reduceIte, reduceCtorEq, Int.reduceToNat, Int.reduceLE, Int.reduceLT, Nat.reduceLeDiff, Nat.reduceAdd, Nat.reduceMul, Int.reduceBNe, Int.reduceBEq, Int.cast_ofNat_Int, decide_true, decide_false, ne_eq, eq_self, implies_true, dc9_r0, dc9_r1, dc9_r2, dc9_r3, dc9_r4, dc9_r6, dc9_r7, dc9_r8, dc9_r9, dc9_r10, dc9_r11, dc9_r12, dc9_r14, dc9_r15, dc9_r16, dc9_r13, dc9_r17, dc9_r18, dc9_r5, dc9_r19, dc9, DL.dI, DL.dB, DL.dS, h0, h1, h7, h8, ht, strs_len, hK, e1, DL.wrap_id]
        rw [hgn]
        refine at_spec l _ _ hl (by omega) (by omega) ?_
        simp -dsimp -implicitDefEqProofs (maxSteps := 1000000) (disch := first | omega | (simp only [List.length_append, List.length_cons, List.length_nil]; omega) | (intros; simp only [ne_eq, reduceCtorEq, not_false_eq_true] <;> fail)) only [DL.R, Nat.reduceEqDiff, ↓reduceIte, reduceCtorEq, Int.reduceToNat, Int.reduceLE, Int.reduceLT, Nat.reduceLeDiff, Nat.reduceAdd, Nat.reduceMul, Int.reduceBNe, Int.reduceBEq, Int.cast_ofNat_Int, decide_true, decide_false, ne_eq, eq_self, implies_true, dc9_r0, dc9_r1, dc9_r2, dc9_r3, dc9_r4, dc9_r6, dc9_r7, dc9_r8, dc9_r9, dc9_r10, dc9_r11, dc9_r12, dc9_r14, dc9_r15, dc9_r16, dc9_r13, dc9_r17, dc9_r18, dc9_r5, dc9_r19, dc9, DL.dI, DL.dB, DL.dS, h0, h1, h7, h8, ht, hb, DL.wrap_id]
        refine for_i 13 8 (fun w s'' H'' => s'' 0 = .sl (ints l) ∧ s'' 1 = .sl (strs names) ∧ s'' 8 = dI N ∧ s'' 9 = dI k ∧ s'' 7 = .row H.length ver ∧ s'' 10 = .ptr (H.length + (Gs.length + 1)) 0 ∧ s'' 12 = dI ((b / 2 ^ w : Nat) : Int) ∧
            ∃ v, H'' = H ++ (.row true ver 42 4 (rulesD ((List.range k).map (ruleF l names))) :: (Gs ++ [.box 42 [dS (ruleF l names k).what, dS (ruleF l names k).mod, dI 0, .row (H.length + (Gs.length + 1 + 1)) v], .row true v 3 1 (ints (whoN b w))]))) ?_ ?_ ?_
        · simp -dsimp -implicitDefEqProofs (maxSteps := 1000000) (disch := first | omega | (simp only [List.length_append, List.length_cons, List.length_nil]; omega) | (intros; simp only [ne_eq, reduceCtorEq, not_false_eq_true] <;> fail)) only [DL.R, Nat.reduceEqDiff, ↓reduceIte, reduceCtorEq, Int.reduceToNat, Int.reduceLE, Int.reduceLT, Nat.reduceLeDiff, Nat.reduceAdd, Nat.reduceMul, Int.reduceBNe, Int.reduceBEq, Int.cast_ofNat_Int, decide_true, decide_false, ne_eq, eq_self, implies_true, DL.dI, DL.dB, DL.dS]
        · simp -dsimp -implicitDefEqProofs (maxSteps := 1000000) (disch := first | omega | (simp only [List.length_append, List.length_cons, List.length_nil]; omega) | (intros; simp only [ne_eq, reduceCtorEq, not_false_eq_true] <;> fail)) only [DL.R, Nat.reduceEqDiff, ↓reduceIte, reduceCtorEq, Int.reduceToNat, Int.reduceLE, Int.reduceLT, Nat.reduceLeDiff, Nat.reduceAdd, Nat.reduceMul, Int.reduceBNe, Int.reduceBEq, Int.cast_ofNat_Int, decide_true, decide_false, ne_eq, eq_self, implies_true, DL.dI, DL.dB, DL.dS, h0, h1, h7, h8, ht]
          exact ⟨by simp, 0, rfl⟩
        · rintro w s'' H'' hw gt ⟨g0, g1, g8, g9, g7, g10, g12, v, rfl⟩
          have hbw : b / 2 ^ w ≤ b := Nat.div_le_self _ _
          have hbs : b / 2 ^ (w + 1) = b / 2 ^ w / 2 := by rw [Nat.pow_succ, Nat.div_div_eq_div_mul]
          have hwl := whoN_len b w
          have hil : (ints (whoN b w)).length = (whoN b w).length := by simp [ints]
          by_cases cw : w < 8
          · have f1 : decide ((w : Int) < 8) = true := by simp; omega
            have f3 := tdiv_two (b / 2 ^ w) (by omega)
            by_cases cb : b / 2 ^ w % 2 = 1
            · have f2 : (((b / 2 ^ w : Nat) : Int).tmod 2 == 1) = true := by rw [tmod_two]; simp [cb]
              simp -dsimp -implicitDefEqProofs (maxSteps := 1000000) (disch := first | omega | (simp only [List.length_append, List.length_cons, List.length_nil]; omega) | (intros; simp only [ne_eq, reduceCtorEq, not_false_eq_true] <;> fail)) only [DL.R, Nat.reduceEqDiff, ↓reduceIte, reduceCtorEq, Int.reduceToNat, Int.reduceLE, Int.reduceLT, Nat.reduceLeDiff, Nat.reduceAdd, Nat.reduceMul, Int.reduceBNe, Int.reduceBEq, Int.cast_ofNat_Int, decide_true, decide_false, ne_eq, eq_self, implies_true, dc9_r0, dc9_r1, dc9_r2, dc9_r3, dc9_r4, dc9_r6, dc9_r7, dc9_r8, dc9_r9, dc9_r10, dc9_r11, dc9_r12, dc9_r14, dc9_r15, dc9_r16, dc9_r13, dc9_r17, dc9_r18, dc9_r5, dc9_r19, dc9, DL.dI, DL.dB, DL.dS, g0, g1, g8, g9, g7, g10, g12, gt, f1, f2, f3, hil, DL.wrap_id]
              refine ⟨by omega, cw, by rw [hbs], v + 1, ?_⟩
              rw [whoN_succ, if_pos cb, ints_snoc]
            · have f2 : (((b / 2 ^ w : Nat) : Int).tmod 2 == 1) = false := by rw [tmod_two]; simp [cb]
              simp -dsimp -implicitDefEqProofs (maxSteps := 1000000) (disch := first | omega | (simp only [List.length_append, List.length_cons, List.length_nil]; omega) | (intros; simp only [ne_eq, reduceCtorEq, not_false_eq_true] <;> fail)) only [DL.R, Nat.reduceEqDiff, ↓reduceIte, reduceCtorEq, Int.reduceToNat, Int.reduceLE, Int.reduceLT, Nat.reduceLeDiff, Nat.reduceAdd, Nat.reduceMul, Int.reduceBNe, Int.reduceBEq, Int.cast_ofNat_Int, decide_true, decide_false, ne_eq, eq_self, implies_true, dc9_r0, dc9_r1, dc9_r2, dc9_r3, dc9_r4, dc9_r6, dc9_r7, dc9_r8, dc9_r9, dc9_r10, dc9_r11, dc9_r12, dc9_r14, dc9_r15, dc9_r16, dc9_r13, dc9_r17, dc9_r18, dc9_r5, dc9_r19, dc9, DL.dI, DL.dB, DL.dS, g0, g1, g8, g9, g7, g10, g12, gt, f1, f2, f3, DL.wrap_id]
              refine ⟨cw, by rw [hbs], v, ?_⟩
              rw [whoN_succ, if_neg cb]
          · have f1 : decide ((w : Int) < 8) = false := by simp; omega
            have hw8 : w = 8 := by omega
            subst hw8
            simp -dsimp -implicitDefEqProofs (maxSteps := 1000000) (disch := first | omega | (simp only [List.length_append, List.length_cons, List.length_nil]; omega) | (intros; simp only [ne_eq, reduceCtorEq, not_false_eq_true] <;> fail)) only [DL.R, Nat.reduceEqDiff, ↓reduceIte, reduceCtorEq, Int.reduceToNat, Int.reduceLE, Int.reduceLT, Nat.reduceLeDiff, Nat.reduceAdd, Nat.reduceMul, Int.reduceBNe, Int.reduceBEq, Int.cast_ofNat_Int, decide_true, decide_false, ne_eq, eq_self, implies_true, dc9_r0, dc9_r1, dc9_r2, dc9_r3, dc9_r4, dc9_r6, dc9_r7, dc9_r8, dc9_r9, dc9_r10, dc9_r11, dc9_r12, dc9_r14, dc9_r15, dc9_r16, dc9_r13, dc9_r17, dc9_r18, dc9_r5, dc9_r19, dc9, DL.dI, DL.dB, DL.dS, g0, g1, g8, g9, g7, g10, g12, gt, f1, hil8, DL.wrap_id]
            rw [hwho] at hpos r25
            refine at_spec l _ _ hl (by omega) (by omega) ?_
            have hN25 : 1 + at_ l (25 + k) (whoN b 8).length = (ruleF l names k).n := by rw [← hwho]; rfl
            have hlen : (rulesD ((List.range k).map (ruleF l names))).length = k := by simp [rulesD]
            simp -dsimp -implicitDefEqProofs (maxSteps := 1000000) (disch := first | omega | (simp only [List.length_append, List.length_cons, List.length_nil]; omega) | (intros; simp only [ne_eq, reduceCtorEq, not_false_eq_true] <;> fail)) only [DL.R, Nat.reduceEqDiff, ↓reduceIte, reduceCtorEq, Int.reduceToNat, Int.reduceLE, Int.reduceLT, Nat.reduceLeDiff, Nat.reduceAdd, Nat.reduceMul, Int.reduceBNe, Int.reduceBEq, Int.cast_ofNat_Int, decide_true, decide_false, ne_eq, eq_self, implies_true, dc9_r0, dc9_r1, dc9_r2, dc9_r3, dc9_r4, dc9_r6, dc9_r7, dc9_r8, dc9_r9, dc9_r10, dc9_r11, dc9_r12, dc9_r14, dc9_r15, dc9_r16, dc9_r13, dc9_r17, dc9_r18, dc9_r5, dc9_r19, dc9, DL.dI, DL.dB, DL.dS, g0, g1, g8, g9, g7, g10, gt, hN25, hlen, DL.wrap_id]
            refine ⟨by omega, c, rfl, ver + 1, _, rfl, by rw [List.range_succ, List.map_append, List.map_cons, List.map_nil, rulesD_snoc]; unfold ruleD ruleL; rw [show (ruleF l names k).who = whoN b 8 from hwho]⟩
    · have c1 : decide ((k : Int) < (N : Int)) = false := by simp; omega
      have hkN : k = N := by omega
      subst hkN
      simp -dsimp -implicitDefEqProofs (maxSteps := 1000000) (disch := first | omega | (simp only [List.length_append, List.length_cons, List.length_nil]; omega) | (intros; simp only [ne_eq, reduceCtorEq, not_false_eq_true] <;> fail)) only [DL.R, Nat.reduceEqDiff, ↓reduceIte, reduceCtorEq, Int.reduceToNat, Int.reduceLE, Int.reduceLT, Nat.reduceLeDiff, Nat.reduceAdd, Nat.reduceMul, Int.reduceBNe, Int.reduceBEq, Int.cast_ofNat_Int, decide_true, decide_false, ne_eq, eq_self, implies_true, dc9_r0, dc9_r1, dc9_r2, dc9_r3, dc9_r4, dc9_r6, dc9_r7, dc9_r8, dc9_r9, dc9_r10, dc9_r11, dc9_r12, dc9_r14, dc9_r15, dc9_r16, dc9_r13, dc9_r17, dc9_r18, dc9_r5, dc9_r19, dc9, DL.dI, DL.dB, DL.dS, h0, h1, h7, h8, ht, c1]
      refine ⟨_, .sl (rulesD (rulesF l names most)), rfl, ?_, below_rules _ _, hQ⟩
      rw [hres]
      exact Deep.own0 rfl
end Go.Proofs.Tryd
set_option maxRecDepth 100000
set_option linter.unusedSimpArgs false
set_option linter.unusedVariables false
set_option linter.unusedVariables false
set_option linter.unusedSimpArgs false
namespace Go.DL
open Go
theorem Ext.truncL {c c' : Conc} {H H1 Gs : List O} (h : Ext c H c' (H1 ++ Gs)) (hl : H.length ≤ H1.length) : Ext c H c' H1 :=
  ⟨h.Φ, fun id o ho => by
    obtain ⟨o', k1, k2, k3, k4⟩ := h.obj id o ho
    have := (List.getElem?_eq_some_iff.1 ho).1
    rw [List.getElem?_append_left (by omega)] at k1
    exact ⟨o', k1, k2, k3, k4⟩⟩
theorem CallA.deepSet {P : Program} {G : Nat → D} {f : FuncId} {ds : List D} {H : List O} {Q : D → List O → Prop} (id : Nat)
    (h : CallA P G f ds H fun d H' => ∃ o' Gs d', o'.Below H.length ∧ H' = H.set id o' ++ Gs ∧ Deep (H.set id o' ++ DL.frzAll Gs) d d' ∧ Below H.length d' ∧ Q d' (H.set id o')) : CallA P G f ds H Q := by
  refine ⟨h.1, fun F c w vs h1 h2 h3 h4 => (h.2 F c w vs h1 h2 h3 h4).mono ?_⟩
  rintro e w' ⟨v, d, c', H', rfl, k1, k2, k3, o', Gs, d', hb, rfl, k4, k5, k6⟩
  obtain ⟨c'', j1, j2⟩ := k1.frzOwn Gs.length
  simp only [List.take_length, List.drop_length, List.append_nil] at j1 j2
  have hbel : ∀ o ∈ H.set id o', o.Below (H.set id o').length := by
    intro o ho
    rw [List.length_set]
    rcases List.mem_or_eq_of_mem_set ho with q | q
    · exact h1.below o q
    · subst q; exact hb
  exact ⟨v, d', c'', H.set id o', rfl, j1.trunc hbel, (k2.trans j2).truncL (by simp), (k4 F c'' w' v j1 (k3.ext j2)).trunc (by rw [List.length_set]; exact k5), k6⟩
section
variable (H Gs : List O) (o o' : O) (id k : Nat)
theorem set_lS (h : id < H.length) : (H.set id o ++ Gs).set id o' = H.set id o' ++ Gs := by rw [List.set_append_left _ _ (by simpa using h), List.set_set]
theorem get_lS (h : id < H.length) : (H.set id o ++ Gs)[id]? = some o := by rw [List.getElem?_append_left (by simpa using h), List.getElem?_set_self h]
theorem get_ownS : (H.set id o ++ Gs)[H.length + k]? = Gs[k]? := by rw [List.getElem?_append_right (by simp)]; congr 1; simp
theorem get_ownS0 : (H.set id o ++ Gs)[H.length]? = Gs[0]? := get_ownS H Gs o id 0
theorem set_ownS : (H.set id o ++ Gs).set (H.length + k) o' = H.set id o ++ Gs.set k o' := by rw [List.set_append_right _ _ (by simp)]; congr 2; simp
theorem set_ownS0 : (H.set id o ++ Gs).set H.length o' = H.set id o ++ Gs.set 0 o' := set_ownS H Gs o o' id 0
theorem set_self (h : H[id]? = some o) : H.set id o = H := by
  apply List.ext_getElem?
  intro i
  by_cases hi : id = i
  · subst hi; rw [List.getElem?_set_self (List.getElem?_eq_some_iff.1 h).1, h]
  · rw [List.getElem?_set_ne hi]
end
end Go.DL
set_option maxRecDepth 100000
set_option linter.unusedSimpArgs false
set_option linter.unusedVariables false
namespace Go.Proofs.Tryd
open Go Go.DL
variable {G : Nat → D} {H : List O} {Q : D → List O → Prop}
structure RS where
  l : List Tok
  bad : Bool
def RS.nx (s : RS) : List UInt8 := nextT s.l
def RS.no (s : RS) (right : Bool) : Bool := s.bad || !right || s.nx == []
def RS.take (s : RS) (right : Bool) : RS := if s.no right then ⟨s.l, true⟩ else ⟨s.l.drop 1, s.bad⟩
def RS.got (s : RS) (right : Bool) : List UInt8 := if s.no right then [] else s.nx
def RS.num (s : RS) (least most : Int) : RS := s.take (numOk s.nx least most)
def RS.ok (s : RS) : Prop := s.l.length ≤ 8192 ∧ ∀ t ∈ s.l, t.text.length ≤ 16
def rsO (e : TypeId) (s : RS) : O := .box e [.sl (toksD s.l), dB s.bad]
theorem RS.take_ok {s : RS} {b : Bool} (h : s.ok) : (s.take b).ok := by
  unfold RS.take
  split
  · exact h
  · exact ⟨by simp; have := h.1; omega, fun t ht => h.2 t (List.mem_of_mem_drop ht)⟩
theorem RS.nx_len {s : RS} (h : s.ok) : s.nx.length ≤ 16 := by
  unfold RS.nx nextT
  cases hl : s.l with
  | nil => simp
  | cons t l => exact h.2 t (by rw [hl]; simp)
def RS.left (s : RS) : Nat := s.l.length + (if s.bad then 0 else 1)
theorem RS.take_left {s : RS} {b : Bool} : (s.take b).left ≤ s.left ∧ (s.bad = false → (s.take b).left < s.left) := by
  unfold RS.take RS.left
  by_cases h : s.no b = true
  · rw [if_pos h]; cases hb : s.bad <;> simp
  · rw [if_neg h]
    have hn : s.nx ≠ [] := by intro q; simp [RS.no, q] at h
    have hl : 1 ≤ s.l.length := by
      cases hl : s.l with
      | nil => simp [RS.nx, nextT, hl] at hn
      | cons t l => simp
    have hb : s.bad = false := by cases hb : s.bad <;> simp_all [RS.no]
    simp [hb]; omega
theorem nextR {id : Nat} {e : TypeId} {s : RS} (hH : H[id]? = some (rsO e s)) (hQ : Q (dS (str s.nx)) H) : CallA Tryd.prog G 48 [.ptr id 0] H Q := next_spec id e s.l s.bad hH hQ
theorem takeR {id : Nat} {e : TypeId} {s : RS} (b : Bool) (hH : H[id]? = some (rsO e s)) (hQ : Q (dS (str (s.got b))) (H.set id (rsO e (s.take b)))) : CallA Tryd.prog G 47 [.ptr id 0, dB b] H Q := by
  refine take_spec id e s.l s.bad b hH (fun h => ?_) (fun h => ?_)
  · have h' : s.no b = true := h
    have e1 : s.got b = [] := by unfold RS.got; rw [if_pos h']
    have e2 : s.take b = ⟨s.l, true⟩ := by unfold RS.take; rw [if_pos h']
    rw [e1, e2] at hQ; exact hQ
  · have h' : ¬ s.no b = true := by rw [Bool.not_eq_true]; exact h
    have e1 : s.got b = s.nx := by unfold RS.got; rw [if_neg h']
    have e2 : s.take b = ⟨s.l.drop 1, s.bad⟩ := by unfold RS.take; rw [if_neg h']
    rw [e1, e2] at hQ; exact hQ
theorem numR (hE : Env G) {id : Nat} {e : TypeId} {s : RS} (hs : s.ok) (least most : Int) (hH : H[id]? = some (rsO e s)) (hQ : Q (dI (numT s.nx)) (H.set id (rsO e (s.num least most)))) : CallA Tryd.prog G 49 [.ptr id 0, dI least, dI most] H Q := by
  have hlen := RS.nx_len hs
  refine number_spec id e s.l s.bad least most hH (by unfold RS.nx at hlen; omega) hE.errS (fun h => ?_) (fun h => ?_)
  · have h' : s.no (numOk s.nx least most) = true := h
    have e2 : s.num least most = ⟨s.l, true⟩ := by unfold RS.num RS.take; rw [if_pos h']
    rw [e2] at hQ; exact hQ
  · have h' : ¬ s.no (numOk s.nx least most) = true := by rw [Bool.not_eq_true]; exact h
    have e2 : s.num least most = ⟨s.l.drop 1, s.bad⟩ := by unfold RS.num RS.take; rw [if_neg h']
    rw [e2] at hQ; exact hQ
def whoF : Nat → RS → Int → Int → List Int → List Int × RS
  | 0, s, _, _, who => (who, s)
  | f + 1, s, least, n, who =>
    if s.bad then (who, s)
    else if decide (n ≤ ((who ++ [numT s.nx]).length : Int)) && (s.num least 7).nx != [44] then (who ++ [numT s.nx], s.num least 7)
    else whoF f ((s.num least 7).take ((s.num least 7).nx == [44])) (numT s.nx + 1) n (who ++ [numT s.nx])
def rs1 (s : RS) : RS := s.take (isWhat kindsL s.nx)
def rs2 (s : RS) : RS := (rs1 s).take true
def rs3 (s : RS) : RS := if (rs1 s).nx = [105, 110] then (rs2 s).take (isWord kwL (rs2 s).nx) else rs1 s
def rsMod (s : RS) : List UInt8 := if (rs1 s).nx = [105, 110] then (rs2 s).got (isWord kwL (rs2 s).nx) else []
def rs4 (s : RS) : RS := (rs3 s).take ((rs3 s).nx == [58])
def rs5 (s : RS) : RS := (rs4 s).num 1 8
def rs6 (s : RS) : RS := (rs5 s).take ((rs5 s).nx == [111, 102])
def rsWho (s : RS) : List Int × RS := whoF ((rs6 s).left + 1) (rs6 s) 0 (numT (rs4 s).nx) []
def ruleOf (s : RS) : Rule := ⟨str (s.got (isWhat kindsL s.nx)), str (rsMod s), numT (rs4 s).nx, (rsWho s).1⟩
theorem numT_bound {t : List UInt8} (h : t.length ≤ 16) : -1000000000000000000 ≤ numT t ∧ numT t ≤ 1000000000000000000 := by
  unfold numT
  cases ha : Lib.atoi t with
  | none => simp
  | some n => obtain ⟨b1, b2⟩ := Lib.atoi_bound ha (by omega); simp; omega
theorem rs_below (n : Nat) (e : TypeId) (s : RS) : (rsO e s).Below n := by
  intro z hz
  simp only [List.mem_cons, List.not_mem_nil, or_false] at hz
  rcases hz with rfl | rfl
  · simp [below_sl, below_lit, toksD, tokD, D.leaves]
  · exact .lit _
end Go.Proofs.Tryd
set_option maxRecDepth 100000
set_option linter.unusedSimpArgs false
set_option linter.unusedVariables false
namespace Go.Proofs.Tryd
open Go Go.DL
variable {G : Nat → D} {H : List O} {Q : D → List O → Prop}
def msr (id : Nat) (H' : List O) : Nat := match H'[id]? with
  | some (.box _ [.sl xs, .lit (.bool b)]) => xs.length + (if b then 0 else 1)
  | _ => 0
theorem onBox_rs (e : TypeId) (t : RS) (K : TypeId → List D → Prop) : onBox (some (rsO e t)) K = K e [.sl (toksD t.l), dB t.bad] := rfl
theorem msr_eq {H Gs : List O} {id : Nat} {e : TypeId} {t : RS} (h : id < H.length) : msr id (H.set id (rsO e t) ++ Gs) = t.left := by
  unfold msr; rw [get_lS _ _ _ _ h]; simp [rsO, RS.left, toksD]
theorem rule_spec (hE : Env G) {id : Nat} {e : TypeId} (s : RS) (hs : s.ok) (hH : H[id]? = some (rsO e s)) (hQ : Q (ruleD (ruleOf s)) (H.set id (rsO e (rsWho s).2))) : CallA Tryd.prog G 30 [.ptr id 0] H Q := by
  have hid : id < H.length := (List.getElem?_eq_some_iff.1 hH).1
  refine CallA.deepSet id (s30 (Nat.le_of_ble_eq_true rfl) ?_)
  have hset : H.set id (rsO e s) = H := set_self H _ id hH
  generalize hfin : (fun d H' => ∃ o' Gs d', O.Below H.length o' ∧ H' = H.set id o' ++ Gs ∧ Deep (H.set id o' ++ DL.frzAll Gs) d d' ∧ Below H.length d' ∧ Q d' (H.set id o')) = Fin
  suffices h : ∀ H0, H0 = H.set id (rsO e s) → vc (CallA Tryd.prog G) G dc30 (args0 [.ptr id 0]) H0 (retK [.cell 2 4 true] Fin) from h H hset.symm
  rintro _ rfl
  simp -dsimp -implicitDefEqProofs (maxSteps := 1000000) (disch := first | omega | (simp only [List.length_append, List.length_cons, List.length_nil]; omega) | (intros; simp only [ne_eq, reduceCtorEq, not_false_eq_true] <;> fail)) only [DL.R, Nat.reduceEqDiff, ↓reduceIte, reduceCtorEq, Int.reduceToNat, Int.reduceLE, Int.reduceLT, Nat.reduceLeDiff, Nat.reduceAdd, Nat.reduceMul, Int.reduceBNe, Int.reduceBEq, Int.cast_ofNat_Int, decide_true, decide_false, ne_eq, eq_self, implies_true, dc30_r0, dc30_r1, dc30_r2, dc30_r3, dc30_r4, dc30_r5, dc30_r6, dc30_r7, dc30_r8, dc30_r9, dc30_r10, dc30_r11, dc30_r12, dc30_r13, dc30_r14, dc30_r15, dc30, DL.dI, DL.dB, DL.dS, DL.set_lS, DL.get_lS, DL.get_ownS, DL.get_ownS0, DL.set_ownS, DL.set_ownS0, List.length_set]
  refine nextR (s := s) (get_lS H _ _ id hid) ?_
  simp -dsimp -implicitDefEqProofs (maxSteps := 1000000) (disch := first | omega | (simp only [List.length_append, List.length_cons, List.length_nil]; omega) | (intros; simp only [ne_eq, reduceCtorEq, not_false_eq_true] <;> fail)) only [DL.R, Nat.reduceEqDiff, ↓reduceIte, reduceCtorEq, Int.reduceToNat, Int.reduceLE, Int.reduceLT, Nat.reduceLeDiff, Nat.reduceAdd, Nat.reduceMul, Int.reduceBNe, Int.reduceBEq, Int.cast_ofNat_Int, decide_true, decide_false, ne_eq, eq_self, implies_true, dc30_r0, dc30_r1, dc30_r2, dc30_r3, dc30_r4, dc30_r5, dc30_r6, dc30_r7, dc30_r8, dc30_r9, dc30_r10, dc30_r11, dc30_r12, dc30_r13, dc30_r14, dc30_r15, dc30, DL.dI, DL.dB, DL.dS, DL.set_lS, DL.get_lS, DL.get_ownS, DL.get_ownS0, DL.set_ownS, DL.set_ownS0, List.length_set]
  refine what_spec kindsL rfl _ hE.kinds ?_
  simp -dsimp -implicitDefEqProofs (maxSteps := 1000000) (disch := first | omega | (simp only [List.length_append, List.length_cons, List.length_nil]; omega) | (intros; simp only [ne_eq, reduceCtorEq, not_false_eq_true] <;> fail)) only [DL.R, Nat.reduceEqDiff, ↓reduceIte, reduceCtorEq, Int.reduceToNat, Int.reduceLE, Int.reduceLT, Nat.reduceLeDiff, Nat.reduceAdd, Nat.reduceMul, Int.reduceBNe, Int.reduceBEq, Int.cast_ofNat_Int, decide_true, decide_false, ne_eq, eq_self, implies_true, dc30_r0, dc30_r1, dc30_r2, dc30_r3, dc30_r4, dc30_r5, dc30_r6, dc30_r7, dc30_r8, dc30_r9, dc30_r10, dc30_r11, dc30_r12, dc30_r13, dc30_r14, dc30_r15, dc30, DL.dI, DL.dB, DL.dS, DL.set_lS, DL.get_lS, DL.get_ownS, DL.get_ownS0, DL.set_ownS, DL.set_ownS0, List.length_set]
  refine takeR (s := s) _ (get_lS H _ _ id hid) ?_

  obtain ⟨s1, h1⟩ : ∃ x, s.take (isWhat kindsL s.nx) = x := ⟨_, rfl⟩
  have h1' : rs1 s = s1 := h1
  have ok1 : s1.ok := h1 ▸ RS.take_ok hs
  rw [h1]
  simp -dsimp -implicitDefEqProofs (maxSteps := 1000000) (disch := first | omega | (simp only [List.length_append, List.length_cons, List.length_nil]; omega) | (intros; simp only [ne_eq, reduceCtorEq, not_false_eq_true] <;> fail)) only [DL.R, Nat.reduceEqDiff, ↓reduceIte, reduceCtorEq, Int.reduceToNat, Int.reduceLE, Int.reduceLT, Nat.reduceLeDiff, Nat.reduceAdd, Nat.reduceMul, Int.reduceBNe, Int.reduceBEq, Int.cast_ofNat_Int, decide_true, decide_false, ne_eq, eq_self, implies_true, dc30_r0, dc30_r1, dc30_r2, dc30_r3, dc30_r4, dc30_r5, dc30_r6, dc30_r7, dc30_r8, dc30_r9, dc30_r10, dc30_r11, dc30_r12, dc30_r13, dc30_r14, dc30_r15, dc30, DL.dI, DL.dB, DL.dS, DL.set_lS, DL.get_lS, DL.get_ownS, DL.get_ownS0, DL.set_ownS, DL.set_ownS0, List.length_set]
  refine ⟨by omega, ?_⟩
  refine nextR (s := s1) (get_lS H _ _ id hid) ?_
  by_cases hin : s1.nx = [105, 110]
  · have e1 : (s1.nx == [105, 110]) = true := by simp [hin]
    simp -dsimp -implicitDefEqProofs (maxSteps := 1000000) (disch := first | omega | (simp only [List.length_append, List.length_cons, List.length_nil]; omega) | (intros; simp only [ne_eq, reduceCtorEq, not_false_eq_true] <;> fail)) only [DL.R, Nat.reduceEqDiff, ↓reduceIte, reduceCtorEq, Int.reduceToNat, Int.reduceLE, Int.reduceLT, Nat.reduceLeDiff, Nat.reduceAdd, Nat.reduceMul, Int.reduceBNe, Int.reduceBEq, Int.cast_ofNat_Int, decide_true, decide_false, ne_eq, eq_self, implies_true, dc30_r0, dc30_r1, dc30_r2, dc30_r3, dc30_r4, dc30_r5, dc30_r6, dc30_r7, dc30_r8, dc30_r9, dc30_r10, dc30_r11, dc30_r12, dc30_r13, dc30_r14, dc30_r15, dc30, DL.dI, DL.dB, DL.dS, DL.set_lS, DL.get_lS, DL.get_ownS, DL.get_ownS0, DL.set_ownS, DL.set_ownS0, List.length_set, e1]
    refine takeR (s := s1) true (get_lS H _ _ id hid) ?_
    obtain ⟨s2, h2⟩ : ∃ x, s1.take true = x := ⟨_, rfl⟩
    have h2' : rs2 s = s2 := by unfold rs2; rw [h1', h2]
    have ok2 : s2.ok := h2 ▸ RS.take_ok ok1
    rw [h2]
    simp -dsimp -implicitDefEqProofs (maxSteps := 1000000) (disch := first | omega | (simp only [List.length_append, List.length_cons, List.length_nil]; omega) | (intros; simp only [ne_eq, reduceCtorEq, not_false_eq_true] <;> fail)) only [DL.R, Nat.reduceEqDiff, ↓reduceIte, reduceCtorEq, Int.reduceToNat, Int.reduceLE, Int.reduceLT, Nat.reduceLeDiff, Nat.reduceAdd, Nat.reduceMul, Int.reduceBNe, Int.reduceBEq, Int.cast_ofNat_Int, decide_true, decide_false, ne_eq, eq_self, implies_true, dc30_r0, dc30_r1, dc30_r2, dc30_r3, dc30_r4, dc30_r5, dc30_r6, dc30_r7, dc30_r8, dc30_r9, dc30_r10, dc30_r11, dc30_r12, dc30_r13, dc30_r14, dc30_r15, dc30, DL.dI, DL.dB, DL.dS, DL.set_lS, DL.get_lS, DL.get_ownS, DL.get_ownS0, DL.set_ownS, DL.set_ownS0, List.length_set]
    refine nextR (s := s2) (get_lS H _ _ id hid) ?_
    simp -dsimp -implicitDefEqProofs (maxSteps := 1000000) (disch := first | omega | (simp only [List.length_append, List.length_cons, List.length_nil]; omega) | (intros; simp only [ne_eq, reduceCtorEq, not_false_eq_true] <;> fail)) only [DL.R, Nat.reduceEqDiff, ↓reduceIte, reduceCtorEq, Int.reduceToNat, Int.reduceLE, Int.reduceLT, Nat.reduceLeDiff, Nat.reduceAdd, Nat.reduceMul, Int.reduceBNe, Int.reduceBEq, Int.cast_ofNat_Int, decide_true, decide_false, ne_eq, eq_self, implies_true, dc30_r0, dc30_r1, dc30_r2, dc30_r3, dc30_r4, dc30_r5, dc30_r6, dc30_r7, dc30_r8, dc30_r9, dc30_r10, dc30_r11, dc30_r12, dc30_r13, dc30_r14, dc30_r15, dc30, DL.dI, DL.dB, DL.dS, DL.set_lS, DL.get_lS, DL.get_ownS, DL.get_ownS0, DL.set_ownS, DL.set_ownS0, List.length_set]
    refine word_spec kwL rfl _ (by have := RS.nx_len ok2; omega) hE.kw hE.kindsF hE.signs ?_
    simp -dsimp -implicitDefEqProofs (maxSteps := 1000000) (disch := first | omega | (simp only [List.length_append, List.length_cons, List.length_nil]; omega) | (intros; simp only [ne_eq, reduceCtorEq, not_false_eq_true] <;> fail)) only [DL.R, Nat.reduceEqDiff, ↓reduceIte, reduceCtorEq, Int.reduceToNat, Int.reduceLE, Int.reduceLT, Nat.reduceLeDiff, Nat.reduceAdd, Nat.reduceMul, Int.reduceBNe, Int.reduceBEq, Int.cast_ofNat_Int, decide_true, decide_false, ne_eq, eq_self, implies_true, dc30_r0, dc30_r1, dc30_r2, dc30_r3, dc30_r4, dc30_r5, dc30_r6, dc30_r7, dc30_r8, dc30_r9, dc30_r10, dc30_r11, dc30_r12, dc30_r13, dc30_r14, dc30_r15, dc30, DL.dI, DL.dB, DL.dS, DL.set_lS, DL.get_lS, DL.get_ownS, DL.get_ownS0, DL.set_ownS, DL.set_ownS0, List.length_set]
    refine takeR (s := s2) _ (get_lS H _ _ id hid) ?_
    obtain ⟨s3, h3⟩ : ∃ x, s2.take (isWord kwL s2.nx) = x := ⟨_, rfl⟩
    have h3' : rs3 s = s3 := by unfold rs3; rw [h1', h2', if_pos hin, h3]
    have ok3 : s3.ok := h3 ▸ RS.take_ok ok2
    obtain ⟨mod, hmod⟩ : ∃ m, rsMod s = m := ⟨_, rfl⟩
    have hm : s2.got (isWord kwL s2.nx) = mod := by rw [← hmod]; unfold rsMod; rw [h1', h2', if_pos hin]
    rw [h3, hm]
    simp -dsimp -implicitDefEqProofs (maxSteps := 1000000) (disch := first | omega | (simp only [List.length_append, List.length_cons, List.length_nil]; omega) | (intros; simp only [ne_eq, reduceCtorEq, not_false_eq_true] <;> fail)) only [DL.R, Nat.reduceEqDiff, ↓reduceIte, reduceCtorEq, Int.reduceToNat, Int.reduceLE, Int.reduceLT, Nat.reduceLeDiff, Nat.reduceAdd, Nat.reduceMul, Int.reduceBNe, Int.reduceBEq, Int.cast_ofNat_Int, decide_true, decide_false, ne_eq, eq_self, implies_true, dc30_r0, dc30_r1, dc30_r2, dc30_r3, dc30_r4, dc30_r5, dc30_r6, dc30_r7, dc30_r8, dc30_r9, dc30_r10, dc30_r11, dc30_r12, dc30_r13, dc30_r14, dc30_r15, dc30, DL.dI, DL.dB, DL.dS, DL.set_lS, DL.get_lS, DL.get_ownS, DL.get_ownS0, DL.set_ownS, DL.set_ownS0, List.length_set]
    refine nextR (s := s3) (get_lS H _ _ id hid) ?_
    simp -dsimp -implicitDefEqProofs (maxSteps := 1000000) (disch := first | omega | (simp only [List.length_append, List.length_cons, List.length_nil]; omega) | (intros; simp only [ne_eq, reduceCtorEq, not_false_eq_true] <;> fail)) only [DL.R, Nat.reduceEqDiff, ↓reduceIte, reduceCtorEq, Int.reduceToNat, Int.reduceLE, Int.reduceLT, Nat.reduceLeDiff, Nat.reduceAdd, Nat.reduceMul, Int.reduceBNe, Int.reduceBEq, Int.cast_ofNat_Int, decide_true, decide_false, ne_eq, eq_self, implies_true, dc30_r0, dc30_r1, dc30_r2, dc30_r3, dc30_r4, dc30_r5, dc30_r6, dc30_r7, dc30_r8, dc30_r9, dc30_r10, dc30_r11, dc30_r12, dc30_r13, dc30_r14, dc30_r15, dc30, DL.dI, DL.dB, DL.dS, DL.set_lS, DL.get_lS, DL.get_ownS, DL.get_ownS0, DL.set_ownS, DL.set_ownS0, List.length_set]
    refine takeR (s := s3) _ (get_lS H _ _ id hid) ?_
    obtain ⟨s4, h4⟩ : ∃ x, s3.take (s3.nx == [58]) = x := ⟨_, rfl⟩
    have h4' : rs4 s = s4 := by unfold rs4; rw [h3', h4]
    have ok4 : s4.ok := h4 ▸ RS.take_ok ok3
    rw [h4]
    simp -dsimp -implicitDefEqProofs (maxSteps := 1000000) (disch := first | omega | (simp only [List.length_append, List.length_cons, List.length_nil]; omega) | (intros; simp only [ne_eq, reduceCtorEq, not_false_eq_true] <;> fail)) only [DL.R, Nat.reduceEqDiff, ↓reduceIte, reduceCtorEq, Int.reduceToNat, Int.reduceLE, Int.reduceLT, Nat.reduceLeDiff, Nat.reduceAdd, Nat.reduceMul, Int.reduceBNe, Int.reduceBEq, Int.cast_ofNat_Int, decide_true, decide_false, ne_eq, eq_self, implies_true, dc30_r0, dc30_r1, dc30_r2, dc30_r3, dc30_r4, dc30_r5, dc30_r6, dc30_r7, dc30_r8, dc30_r9, dc30_r10, dc30_r11, dc30_r12, dc30_r13, dc30_r14, dc30_r15, dc30, DL.dI, DL.dB, DL.dS, DL.set_lS, DL.get_lS, DL.get_ownS, DL.get_ownS0, DL.set_ownS, DL.set_ownS0, List.length_set]
    refine numR hE (s := s4) ok4 1 8 (get_lS H _ _ id hid) ?_
    obtain ⟨s5, h5⟩ : ∃ x, s4.num 1 8 = x := ⟨_, rfl⟩
    have h5' : rs5 s = s5 := by unfold rs5; rw [h4', h5]
    have ok5 : s5.ok := h5 ▸ RS.take_ok ok4
    rw [h5]
    simp -dsimp -implicitDefEqProofs (maxSteps := 1000000) (disch := first | omega | (simp only [List.length_append, List.length_cons, List.length_nil]; omega) | (intros; simp only [ne_eq, reduceCtorEq, not_false_eq_true] <;> fail)) only [DL.R, Nat.reduceEqDiff, ↓reduceIte, reduceCtorEq, Int.reduceToNat, Int.reduceLE, Int.reduceLT, Nat.reduceLeDiff, Nat.reduceAdd, Nat.reduceMul, Int.reduceBNe, Int.reduceBEq, Int.cast_ofNat_Int, decide_true, decide_false, ne_eq, eq_self, implies_true, dc30_r0, dc30_r1, dc30_r2, dc30_r3, dc30_r4, dc30_r5, dc30_r6, dc30_r7, dc30_r8, dc30_r9, dc30_r10, dc30_r11, dc30_r12, dc30_r13, dc30_r14, dc30_r15, dc30, DL.dI, DL.dB, DL.dS, DL.set_lS, DL.get_lS, DL.get_ownS, DL.get_ownS0, DL.set_ownS, DL.set_ownS0, List.length_set]
    refine nextR (s := s5) (get_lS H _ _ id hid) ?_
    simp -dsimp -implicitDefEqProofs (maxSteps := 1000000) (disch := first | omega | (simp only [List.length_append, List.length_cons, List.length_nil]; omega) | (intros; simp only [ne_eq, reduceCtorEq, not_false_eq_true] <;> fail)) only [DL.R, Nat.reduceEqDiff, ↓reduceIte, reduceCtorEq, Int.reduceToNat, Int.reduceLE, Int.reduceLT, Nat.reduceLeDiff, Nat.reduceAdd, Nat.reduceMul, Int.reduceBNe, Int.reduceBEq, Int.cast_ofNat_Int, decide_true, decide_false, ne_eq, eq_self, implies_true, dc30_r0, dc30_r1, dc30_r2, dc30_r3, dc30_r4, dc30_r5, dc30_r6, dc30_r7, dc30_r8, dc30_r9, dc30_r10, dc30_r11, dc30_r12, dc30_r13, dc30_r14, dc30_r15, dc30, DL.dI, DL.dB, DL.dS, DL.set_lS, DL.get_lS, DL.get_ownS, DL.get_ownS0, DL.set_ownS, DL.set_ownS0, List.length_set]
    refine takeR (s := s5) _ (get_lS H _ _ id hid) ?_
    obtain ⟨s6, h6⟩ : ∃ x, s5.take (s5.nx == [111, 102]) = x := ⟨_, rfl⟩
    have h6' : rs6 s = s6 := by unfold rs6; rw [h5', h6]
    have ok6 : s6.ok := h6 ▸ RS.take_ok ok5
    rw [h6]
    obtain ⟨n, hn⟩ : ∃ n, numT s4.nx = n := ⟨_, rfl⟩
    have hnb : -1000000000000000000 ≤ n ∧ n ≤ 1000000000000000000 := hn ▸ numT_bound (RS.nx_len ok4)
    have hwho : rsWho s = whoF (s6.left + 1) s6 0 n [] := by unfold rsWho; rw [h6', h4', hn]
    have hleft6 : s6.left ≤ 8193 := by unfold RS.left; have := ok6.1; split <;> omega
    rw [hn]
    have last : ∀ (who : List Int) (t : RS) (Gs : List O), rsWho s = (who, t) → Fin (.agg [dS (str (s.got (isWhat kindsL s.nx))), dS (str mod), dI n, .sl (ints who)]) (H.set id (rsO e t) ++ Gs) := by
      intro who t Gs hw
      rw [← hfin]
      have hro : ruleOf s = ⟨str (s.got (isWhat kindsL s.nx)), str mod, n, who⟩ := by unfold ruleOf; rw [hmod, h4', hn, hw]
      have hro' : ruleD (ruleOf s) = .agg [dS (str (s.got (isWhat kindsL s.nx))), dS (str mod), dI n, .sl (ints who)] := by rw [hro]; rfl
      refine ⟨rsO e t, Gs, ruleD (ruleOf s), rs_below _ _ _, rfl, by rw [hro']; exact Deep.refl _ _, by rw [hro']; simp [below_agg, below_sl, below_lit, ints, D.leaves], ?_⟩
      rw [hw] at hQ; exact hQ
    simp -dsimp -implicitDefEqProofs (maxSteps := 1000000) (disch := first | omega | (simp only [List.length_append, List.length_cons, List.length_nil]; omega) | (intros; simp only [ne_eq, reduceCtorEq, not_false_eq_true] <;> fail)) only [DL.R, Nat.reduceEqDiff, ↓reduceIte, reduceCtorEq, Int.reduceToNat, Int.reduceLE, Int.reduceLT, Nat.reduceLeDiff, Nat.reduceAdd, Nat.reduceMul, Int.reduceBNe, Int.reduceBEq, Int.cast_ofNat_Int, decide_true, decide_false, ne_eq, eq_self, implies_true, dc30_r0, dc30_r1, dc30_r2, dc30_r3, dc30_r4, dc30_r5, dc30_r6, dc30_r7, dc30_r8, dc30_r9, dc30_r10, dc30_r11, dc30_r12, dc30_r13, dc30_r14, dc30_r15, dc30, DL.dI, DL.dB, DL.dS, DL.set_lS, DL.get_lS, DL.get_ownS, DL.get_ownS0, DL.set_ownS, DL.set_ownS0, List.length_set]
    refine loop_i (fun s' H' => s' 0 = .ptr id 0 ∧ s' 2 = .ptr H.length 0 ∧ s' 3 = .ptr (H.length + 1) 0 ∧ ∃ (f : Nat) (t : RS) (least : Int) (who : List Int) (ver : Nat), t.ok ∧ -1000000000000000000 ≤ least ∧ least ≤ 1000000000000000001 ∧ t.left < f ∧ who.length + t.left ≤ 8193 ∧
        rsWho s = whoF f t least n who ∧ s' 4 = dI least ∧ H' = H.set id (rsO e t) ++ [.box 42 [.lit (.string (str [])), .lit (.string (str [])), .lit (.int .i64 0), .lit (.slice none 0 0)], .box 42 [dS (str (s.got (isWhat kindsL s.nx))), dS (str mod), dI n, .row (H.length + 2) ver], .row true ver 3 1 (ints who)])
      (fun _ H' => msr id H') ?_ ?_
    · simp -dsimp -implicitDefEqProofs (maxSteps := 1000000) (disch := first | omega | (simp only [List.length_append, List.length_cons, List.length_nil]; omega) | (intros; simp only [ne_eq, reduceCtorEq, not_false_eq_true] <;> fail)) only [DL.R, Nat.reduceEqDiff, ↓reduceIte, reduceCtorEq, Int.reduceToNat, Int.reduceLE, Int.reduceLT, Nat.reduceLeDiff, Nat.reduceAdd, Nat.reduceMul, Int.reduceBNe, Int.reduceBEq, Int.cast_ofNat_Int, decide_true, decide_false, ne_eq, eq_self, implies_true, DL.dI, DL.dB, DL.dS]
      exact ⟨s6.left + 1, s6, 0, [], 0, ok6, by omega, by omega, by omega, by simpa using hleft6, hwho, rfl, rfl⟩
    · rintro s' H' ⟨g0, g2, g3, f, t, least, who, ver, okt, hl0, hl1, hf, hwl, hW, g4, rfl⟩
      obtain ⟨f, rfl⟩ : ∃ m, f = m + 1 := ⟨f - 1, by omega⟩
      rw [whoF] at hW
      have hil : (ints who).length = who.length := by simp [ints]
      by_cases hb : t.bad = true
      · rw [if_pos hb] at hW
        simp -dsimp -implicitDefEqProofs (maxSteps := 1000000) (disch := first | omega | (simp only [List.length_append, List.length_cons, List.length_nil]; omega) | (intros; simp only [ne_eq, reduceCtorEq, not_false_eq_true] <;> fail)) only [DL.R, Nat.reduceEqDiff, ↓reduceIte, reduceCtorEq, Int.reduceToNat, Int.reduceLE, Int.reduceLT, Nat.reduceLeDiff, Nat.reduceAdd, Nat.reduceMul, Int.reduceBNe, Int.reduceBEq, Int.cast_ofNat_Int, decide_true, decide_false, ne_eq, eq_self, implies_true, dc30_r0, dc30_r1, dc30_r2, dc30_r3, dc30_r4, dc30_r5, dc30_r6, dc30_r7, dc30_r8, dc30_r9, dc30_r10, dc30_r11, dc30_r12, dc30_r13, dc30_r14, dc30_r15, dc30, DL.dI, DL.dB, DL.dS, g0, g2, g3, g4, DL.set_lS, DL.get_lS, DL.get_ownS, DL.get_ownS0, DL.set_ownS, DL.set_ownS0, List.length_set, onBox_rs, hb]
        exact last who t _ hW
      · rw [if_neg hb] at hW
        have hb' : t.bad = false := by simpa using hb
        simp -dsimp -implicitDefEqProofs (maxSteps := 1000000) (disch := first | omega | (simp only [List.length_append, List.length_cons, List.length_nil]; omega) | (intros; simp only [ne_eq, reduceCtorEq, not_false_eq_true] <;> fail)) only [DL.R, Nat.reduceEqDiff, ↓reduceIte, reduceCtorEq, Int.reduceToNat, Int.reduceLE, Int.reduceLT, Nat.reduceLeDiff, Nat.reduceAdd, Nat.reduceMul, Int.reduceBNe, Int.reduceBEq, Int.cast_ofNat_Int, decide_true, decide_false, ne_eq, eq_self, implies_true, dc30_r0, dc30_r1, dc30_r2, dc30_r3, dc30_r4, dc30_r5, dc30_r6, dc30_r7, dc30_r8, dc30_r9, dc30_r10, dc30_r11, dc30_r12, dc30_r13, dc30_r14, dc30_r15, dc30, DL.dI, DL.dB, DL.dS, g0, g2, g3, g4, DL.set_lS, DL.get_lS, DL.get_ownS, DL.get_ownS0, DL.set_ownS, DL.set_ownS0, List.length_set, onBox_rs, hb']
        refine numR hE (s := t) okt least 7 (get_lS H _ _ id hid) ?_
        obtain ⟨u, hu⟩ : ∃ x, t.num least 7 = x := ⟨_, rfl⟩
        have oku : u.ok := hu ▸ RS.take_ok okt
        obtain ⟨w, hw⟩ : ∃ w, numT t.nx = w := ⟨_, rfl⟩
        have hwb : -1000000000000000000 ≤ w ∧ w ≤ 1000000000000000000 := hw ▸ numT_bound (RS.nx_len okt)
        have hul : u.left < t.left := hu ▸ (RS.take_left.2 hb')
        have hsn : ints (who ++ [w]) = ints who ++ [dI w] := ints_snoc _ _
        have hlw : ((who ++ [w]).length : Int) = (who.length : Int) + 1 := by simp
        rw [hu, hw] at hW ⊢
        rw [hlw] at hW
        simp -dsimp -implicitDefEqProofs (maxSteps := 1000000) (disch := first | omega | (simp only [List.length_append, List.length_cons, List.length_nil]; omega) | (intros; simp only [ne_eq, reduceCtorEq, not_false_eq_true] <;> fail)) only [DL.R, Nat.reduceEqDiff, ↓reduceIte, reduceCtorEq, Int.reduceToNat, Int.reduceLE, Int.reduceLT, Nat.reduceLeDiff, Nat.reduceAdd, Nat.reduceMul, Int.reduceBNe, Int.reduceBEq, Int.cast_ofNat_Int, decide_true, decide_false, ne_eq, eq_self, implies_true, dc30_r0, dc30_r1, dc30_r2, dc30_r3, dc30_r4, dc30_r5, dc30_r6, dc30_r7, dc30_r8, dc30_r9, dc30_r10, dc30_r11, dc30_r12, dc30_r13, dc30_r14, dc30_r15, dc30, DL.dI, DL.dB, DL.dS, g0, g2, g3, g4, DL.set_lS, DL.get_lS, DL.get_ownS, DL.get_ownS0, DL.set_ownS, DL.set_ownS0, List.length_set, hil]
        refine ⟨by omega, ?_⟩
        have hle : ((ints who ++ [D.lit (.int .i64 w)]).length : Int) = (who.length : Int) + 1 := by simp [ints]
        have hlen2 : ((who.length + 1 : Nat) : Int) = (who.length : Int) + 1 := by simp
        by_cases c1 : n ≤ (who.length : Int) + 1
        · have f1 : decide ((who.length : Int) + 1 ≥ n) = true := by simp; omega
          have f1' : decide (n ≤ (who.length : Int) + 1) = true := by simp; omega
          simp -dsimp -implicitDefEqProofs (maxSteps := 1000000) (disch := first | omega | (simp only [List.length_append, List.length_cons, List.length_nil]; omega) | (intros; simp only [ne_eq, reduceCtorEq, not_false_eq_true] <;> fail)) only [DL.R, Nat.reduceEqDiff, ↓reduceIte, reduceCtorEq, Int.reduceToNat, Int.reduceLE, Int.reduceLT, Nat.reduceLeDiff, Nat.reduceAdd, Nat.reduceMul, Int.reduceBNe, Int.reduceBEq, Int.cast_ofNat_Int, decide_true, decide_false, ne_eq, eq_self, implies_true, dc30_r0, dc30_r1, dc30_r2, dc30_r3, dc30_r4, dc30_r5, dc30_r6, dc30_r7, dc30_r8, dc30_r9, dc30_r10, dc30_r11, dc30_r12, dc30_r13, dc30_r14, dc30_r15, dc30, DL.dI, DL.dB, DL.dS, g0, g2, g3, g4, DL.set_lS, DL.get_lS, DL.get_ownS, DL.get_ownS0, DL.set_ownS, DL.set_ownS0, List.length_set, hil, List.length_append, Int.natCast_add, f1, DL.wrap_id]
          refine nextR (s := u) (get_lS H _ _ id hid) ?_
          by_cases c2 : u.nx = [44]
          · have f2 : (u.nx != [44]) = false := by simp [c2]
            have f3 : (u.nx == [44]) = true := by simp [c2]
            rw [f1', f2, f3] at hW
            simp only [Bool.and_false, Bool.false_eq_true, if_false] at hW
            simp -dsimp -implicitDefEqProofs (maxSteps := 1000000) (disch := first | omega | (simp only [List.length_append, List.length_cons, List.length_nil]; omega) | (intros; simp only [ne_eq, reduceCtorEq, not_false_eq_true] <;> fail)) only [DL.R, Nat.reduceEqDiff, ↓reduceIte, reduceCtorEq, Int.reduceToNat, Int.reduceLE, Int.reduceLT, Nat.reduceLeDiff, Nat.reduceAdd, Nat.reduceMul, Int.reduceBNe, Int.reduceBEq, Int.cast_ofNat_Int, decide_true, decide_false, ne_eq, eq_self, implies_true, dc30_r0, dc30_r1, dc30_r2, dc30_r3, dc30_r4, dc30_r5, dc30_r6, dc30_r7, dc30_r8, dc30_r9, dc30_r10, dc30_r11, dc30_r12, dc30_r13, dc30_r14, dc30_r15, dc30, DL.dI, DL.dB, DL.dS, g0, g2, g3, g4, DL.set_lS, DL.get_lS, DL.get_ownS, DL.get_ownS0, DL.set_ownS, DL.set_ownS0, List.length_set, hil, f3, DL.wrap_id]
            refine nextR (s := u) (get_lS H _ _ id hid) ?_
            simp -dsimp -implicitDefEqProofs (maxSteps := 1000000) (disch := first | omega | (simp only [List.length_append, List.length_cons, List.length_nil]; omega) | (intros; simp only [ne_eq, reduceCtorEq, not_false_eq_true] <;> fail)) only [DL.R, Nat.reduceEqDiff, ↓reduceIte, reduceCtorEq, Int.reduceToNat, Int.reduceLE, Int.reduceLT, Nat.reduceLeDiff, Nat.reduceAdd, Nat.reduceMul, Int.reduceBNe, Int.reduceBEq, Int.cast_ofNat_Int, decide_true, decide_false, ne_eq, eq_self, implies_true, dc30_r0, dc30_r1, dc30_r2, dc30_r3, dc30_r4, dc30_r5, dc30_r6, dc30_r7, dc30_r8, dc30_r9, dc30_r10, dc30_r11, dc30_r12, dc30_r13, dc30_r14, dc30_r15, dc30, DL.dI, DL.dB, DL.dS, g0, g2, g3, g4, DL.set_lS, DL.get_lS, DL.get_ownS, DL.get_ownS0, DL.set_ownS, DL.set_ownS0, List.length_set, hil, f3, DL.wrap_id]
            refine takeR (s := u) _ (get_lS H _ _ id hid) ?_
            simp -dsimp -implicitDefEqProofs (maxSteps := 1000000) (disch := first | omega | (simp only [List.length_append, List.length_cons, List.length_nil]; omega) | (intros; simp only [ne_eq, reduceCtorEq, not_false_eq_true] <;> fail)) only [DL.R, Nat.reduceEqDiff, ↓reduceIte, reduceCtorEq, Int.reduceToNat, Int.reduceLE, Int.reduceLT, Nat.reduceLeDiff, Nat.reduceAdd, Nat.reduceMul, Int.reduceBNe, Int.reduceBEq, Int.cast_ofNat_Int, decide_true, decide_false, ne_eq, eq_self, implies_true, dc30_r0, dc30_r1, dc30_r2, dc30_r3, dc30_r4, dc30_r5, dc30_r6, dc30_r7, dc30_r8, dc30_r9, dc30_r10, dc30_r11, dc30_r12, dc30_r13, dc30_r14, dc30_r15, dc30, DL.dI, DL.dB, DL.dS, g0, g2, g3, g4, DL.set_lS, DL.get_lS, DL.get_ownS, DL.get_ownS0, DL.set_ownS, DL.set_ownS0, List.length_set, hil, DL.wrap_id]
            have hul2 := (RS.take_left (s := u) (b := true)).1
            rw [msr_eq hid, msr_eq hid]
            exact ⟨⟨f, u.take true, w + 1, who ++ [w], ver + 1, RS.take_ok oku, by omega, by omega, by omega, by simp; omega, hW, rfl, by rw [hsn]⟩, by omega⟩
          · have f2 : (u.nx != [44]) = true := by simp [c2]
            have f3 : (u.nx == [44]) = false := by simp [c2]
            rw [f1', f2] at hW
            simp only [Bool.and_true, if_true] at hW
            simp -dsimp -implicitDefEqProofs (maxSteps := 1000000) (disch := first | omega | (simp only [List.length_append, List.length_cons, List.length_nil]; omega) | (intros; simp only [ne_eq, reduceCtorEq, not_false_eq_true] <;> fail)) only [DL.R, Nat.reduceEqDiff, ↓reduceIte, reduceCtorEq, Int.reduceToNat, Int.reduceLE, Int.reduceLT, Nat.reduceLeDiff, Nat.reduceAdd, Nat.reduceMul, Int.reduceBNe, Int.reduceBEq, Int.cast_ofNat_Int, decide_true, decide_false, ne_eq, eq_self, implies_true, dc30_r0, dc30_r1, dc30_r2, dc30_r3, dc30_r4, dc30_r5, dc30_r6, dc30_r7, dc30_r8, dc30_r9, dc30_r10, dc30_r11, dc30_r12, dc30_r13, dc30_r14, dc30_r15, dc30, DL.dI, DL.dB, DL.dS, g0, g2, g3, g4, DL.set_lS, DL.get_lS, DL.get_ownS, DL.get_ownS0, DL.set_ownS, DL.set_ownS0, List.length_set, hil, f3, DL.wrap_id]
            have := last (who ++ [w]) u
            rw [hsn] at this
            exact this _ hW
        · have f1 : decide ((who.length : Int) + 1 ≥ n) = false := by simp; omega
          have f1' : decide (n ≤ (who.length : Int) + 1) = false := by simp; omega
          rw [f1'] at hW
          simp only [Bool.false_and, Bool.false_eq_true, if_false] at hW
          simp -dsimp -implicitDefEqProofs (maxSteps := 1000000) (disch := first | omega | (simp only [List.length_append, List.length_cons, List.length_nil]; omega) | (intros; simp only [ne_eq, reduceCtorEq, not_false_eq_true] <;> fail)) only [DL.R, Nat.reduceEqDiff, ↓reduceIte, reduceCtorEq, Int.reduceToNat, Int.reduceLE, Int.reduceLT, Nat.reduceLeDiff, Nat.reduceAdd, Nat.reduceMul, Int.reduceBNe, Int.reduceBEq, Int.cast_ofNat_Int, decide_true, decide_false, ne_eq, eq_self, implies_true, dc30_r0, dc30_r1, dc30_r2, dc30_r3, dc30_r4, dc30_r5, dc30_r6, dc30_r7, dc30_r8, dc30_r9, dc30_r10, dc30_r11, dc30_r12, dc30_r13, dc30_r14, dc30_r15, dc30, DL.dI, DL.dB, DL.dS, g0, g2, g3, g4, DL.set_lS, DL.get_lS, DL.get_ownS, DL.get_ownS0, DL.set_ownS, DL.set_ownS0, List.length_set, hil, List.length_append, Int.natCast_add, f1, DL.wrap_id]
          refine nextR (s := u) (get_lS H _ _ id hid) ?_
          simp -dsimp -implicitDefEqProofs (maxSteps := 1000000) (disch := first | omega | (simp only [List.length_append, List.length_cons, List.length_nil]; omega) | (intros; simp only [ne_eq, reduceCtorEq, not_false_eq_true] <;> fail)) only [DL.R, Nat.reduceEqDiff, ↓reduceIte, reduceCtorEq, Int.reduceToNat, Int.reduceLE, Int.reduceLT, Nat.reduceLeDiff, Nat.reduceAdd, Nat.reduceMul, Int.reduceBNe, Int.reduceBEq, Int.cast_ofNat_Int, decide_true, decide_false, ne_eq, eq_self, implies_true, dc30_r0, dc30_r1, dc30_r2, dc30_r3, dc30_r4, dc30_r5, dc30_r6, dc30_r7, dc30_r8, dc30_r9, dc30_r10, dc30_r11, dc30_r12, dc30_r13, dc30_r14, dc30_r15, dc30, DL.dI, DL.dB, DL.dS, g0, g2, g3, g4, DL.set_lS, DL.get_lS, DL.get_ownS, DL.get_ownS0, DL.set_ownS, DL.set_ownS0, List.length_set, hil, DL.wrap_id]
          refine takeR (s := u) _ (get_lS H _ _ id hid) ?_
          simp -dsimp -implicitDefEqProofs (maxSteps := 1000000) (disch := first | omega | (simp only [List.length_append, List.length_cons, List.length_nil]; omega) | (intros; simp only [ne_eq, reduceCtorEq, not_false_eq_true] <;> fail)) only [DL.R, Nat.reduceEqDiff, ↓reduceIte, reduceCtorEq, Int.reduceToNat, Int.reduceLE, Int.reduceLT, Nat.reduceLeDiff, Nat.reduceAdd, Nat.reduceMul, Int.reduceBNe, Int.reduceBEq, Int.cast_ofNat_Int, decide_true, decide_false, ne_eq, eq_self, implies_true, dc30_r0, dc30_r1, dc30_r2, dc30_r3, dc30_r4, dc30_r5, dc30_r6, dc30_r7, dc30_r8, dc30_r9, dc30_r10, dc30_r11, dc30_r12, dc30_r13, dc30_r14, dc30_r15, dc30, DL.dI, DL.dB, DL.dS, g0, g2, g3, g4, DL.set_lS, DL.get_lS, DL.get_ownS, DL.get_ownS0, DL.set_ownS, DL.set_ownS0, List.length_set, hil, DL.wrap_id]
          have hul2 := (RS.take_left (s := u) (b := u.nx == [44])).1
          rw [msr_eq hid, msr_eq hid]
          exact ⟨⟨f, u.take (u.nx == [44]), w + 1, who ++ [w], ver + 1, RS.take_ok oku, by omega, by omega, by omega, by simp; omega, hW, rfl, by rw [hsn]⟩, by omega⟩
  · have e1 : (s1.nx == [105, 110]) = false := by simp [hin]
    have h3' : rs3 s = s1 := by unfold rs3; rw [h1', if_neg hin]
    obtain ⟨s3, h3⟩ : ∃ x, s1 = x := ⟨_, rfl⟩
    have ok3 : s3.ok := h3 ▸ ok1
    rw [h3] at h3' e1 ⊢
    have hmod : rsMod s = [] := by unfold rsMod; rw [h1', if_neg hin]
    simp -dsimp -implicitDefEqProofs (maxSteps := 1000000) (disch := first | omega | (simp only [List.length_append, List.length_cons, List.length_nil]; omega) | (intros; simp only [ne_eq, reduceCtorEq, not_false_eq_true] <;> fail)) only [DL.R, Nat.reduceEqDiff, ↓reduceIte, reduceCtorEq, Int.reduceToNat, Int.reduceLE, Int.reduceLT, Nat.reduceLeDiff, Nat.reduceAdd, Nat.reduceMul, Int.reduceBNe, Int.reduceBEq, Int.cast_ofNat_Int, decide_true, decide_false, ne_eq, eq_self, implies_true, dc30_r0, dc30_r1, dc30_r2, dc30_r3, dc30_r4, dc30_r5, dc30_r6, dc30_r7, dc30_r8, dc30_r9, dc30_r10, dc30_r11, dc30_r12, dc30_r13, dc30_r14, dc30_r15, dc30, DL.dI, DL.dB, DL.dS, DL.set_lS, DL.get_lS, DL.get_ownS, DL.get_ownS0, DL.set_ownS, DL.set_ownS0, List.length_set, e1]
    refine nextR (s := s3) (get_lS H _ _ id hid) ?_
    simp -dsimp -implicitDefEqProofs (maxSteps := 1000000) (disch := first | omega | (simp only [List.length_append, List.length_cons, List.length_nil]; omega) | (intros; simp only [ne_eq, reduceCtorEq, not_false_eq_true] <;> fail)) only [DL.R, Nat.reduceEqDiff, ↓reduceIte, reduceCtorEq, Int.reduceToNat, Int.reduceLE, Int.reduceLT, Nat.reduceLeDiff, Nat.reduceAdd, Nat.reduceMul, Int.reduceBNe, Int.reduceBEq, Int.cast_ofNat_Int, decide_true, decide_false, ne_eq, eq_self, implies_true, dc30_r0, dc30_r1, dc30_r2, dc30_r3, dc30_r4, dc30_r5, dc30_r6, dc30_r7, dc30_r8, dc30_r9, dc30_r10, dc30_r11, dc30_r12, dc30_r13, dc30_r14, dc30_r15, dc30, DL.dI, DL.dB, DL.dS, DL.set_lS, DL.get_lS, DL.get_ownS, DL.get_ownS0, DL.set_ownS, DL.set_ownS0, List.length_set]
    refine takeR (s := s3) _ (get_lS H _ _ id hid) ?_
    obtain ⟨s4, h4⟩ : ∃ x, s3.take (s3.nx == [58]) = x := ⟨_, rfl⟩
    have h4' : rs4 s = s4 := by unfold rs4; rw [h3', h4]
    have ok4 : s4.ok := h4 ▸ RS.take_ok ok3
    rw [h4]
    simp -dsimp -implicitDefEqProofs (maxSteps := 1000000) (disch := first | omega | (simp only [List.length_append, List.length_cons, List.length_nil]; omega) | (intros; simp only [ne_eq, reduceCtorEq, not_false_eq_true] <;> fail)) only [DL.R, Nat.reduceEqDiff, ↓reduceIte, reduceCtorEq, Int.reduceToNat, Int.reduceLE, Int.reduceLT, Nat.reduceLeDiff, Nat.reduceAdd, Nat.reduceMul, Int.reduceBNe, Int.reduceBEq, Int.cast_ofNat_Int, decide_true, decide_false, ne_eq, eq_self, implies_true, dc30_r0, dc30_r1, dc30_r2, dc30_r3, dc30_r4, dc30_r5, dc30_r6, dc30_r7, dc30_r8, dc30_r9, dc30_r10, dc30_r11, dc30_r12, dc30_r13, dc30_r14, dc30_r15, dc30, DL.dI, DL.dB, DL.dS, DL.set_lS, DL.get_lS, DL.get_ownS, DL.get_ownS0, DL.set_ownS, DL.set_ownS0, List.length_set]
    refine numR hE (s := s4) ok4 1 8 (get_lS H _ _ id hid) ?_
    obtain ⟨s5, h5⟩ : ∃ x, s4.num 1 8 = x := ⟨_, rfl⟩
    have h5' : rs5 s = s5 := by unfold rs5; rw [h4', h5]
    have ok5 : s5.ok := h5 ▸ RS.take_ok ok4
    rw [h5]
    simp -dsimp -implicitDefEqProofs (maxSteps := 1000000) (disch := first | omega | (simp only [List.length_append, List.length_cons, List.length_nil]; omega) | (intros; simp only [ne_eq, reduceCtorEq, not_false_eq_true] <;> fail)) only [DL.R, Nat.reduceEqDiff, ↓reduceIte, reduceCtorEq, Int.reduceToNat, Int.reduceLE, Int.reduceLT, Nat.reduceLeDiff, Nat.reduceAdd, Nat.reduceMul, Int.reduceBNe, Int.reduceBEq, Int.cast_ofNat_Int, decide_true, decide_false, ne_eq, eq_self, implies_true, dc30_r0, dc30_r1, dc30_r2, dc30_r3, dc30_r4, dc30_r5, dc30_r6, dc30_r7, dc30_r8, dc30_r9, dc30_r10, dc30_r11, dc30_r12, dc30_r13, dc30_r14, dc30_r15, dc30, DL.dI, DL.dB, DL.dS, DL.set_lS, DL.get_lS, DL.get_ownS, DL.get_ownS0, DL.set_ownS, DL.set_ownS0, List.length_set]
    refine nextR (s := s5) (get_lS H _ _ id hid) ?_
    simp -dsimp -implicitDefEqProofs (maxSteps := 1000000) (disch := first | omega | (simp only [List.length_append, List.length_cons, List.length_nil]; omega) | (intros; simp only [ne_eq, reduceCtorEq, not_false_eq_true] <;> fail)) only [DL.R, Nat.reduceEqDiff, ↓reduceIte, reduceCtorEq, Int.reduceToNat, Int.reduceLE, Int.reduceLT, Nat.reduceLeDiff, Nat.reduceAdd, Nat.reduceMul, Int.reduceBNe, Int.reduceBEq, Int.cast_ofNat_Int, decide_true, decide_false, ne_eq, eq_self, implies_true, dc30_r0, dc30_r1, dc30_r2, dc30_r3, dc30_r4, dc30_r5, dc30_r6, dc30_r7, dc30_r8, dc30_r9, dc30_r10, dc30_r11, dc30_r12, dc30_r13, dc30_r14, dc30_r15, dc30, DL.dI, DL.dB, DL.dS, DL.set_lS, DL.get_lS, DL.get_ownS, DL.get_ownS0, DL.set_ownS, DL.set_ownS0, List.length_set]
    refine takeR (s := s5) _ (get_lS H _ _ id hid) ?_
    obtain ⟨s6, h6⟩ : ∃ x, s5.take (s5.nx == [111, 102]) = x := ⟨_, rfl⟩
    have h6' : rs6 s = s6 := by unfold rs6; rw [h5', h6]
    have ok6 : s6.ok := h6 ▸ RS.take_ok ok5
    rw [h6]
    obtain ⟨n, hn⟩ : ∃ n, numT s4.nx = n := ⟨_, rfl⟩
    have hnb : -1000000000000000000 ≤ n ∧ n ≤ 1000000000000000000 := hn ▸ numT_bound (RS.nx_len ok4)
    have hwho : rsWho s = whoF (s6.left + 1) s6 0 n [] := by unfold rsWho; rw [h6', h4', hn]
    have hleft6 : s6.left ≤ 8193 := by unfold RS.left; have := ok6.1; split <;> omega
    rw [hn]
    have last : ∀ (who : List Int) (t : RS) (Gs : List O), rsWho s = (who, t) → Fin (.agg [dS (str (s.got (isWhat kindsL s.nx))), dS (str []), dI n, .sl (ints who)]) (H.set id (rsO e t) ++ Gs) := by
      intro who t Gs hw
      rw [← hfin]
      have hro : ruleOf s = ⟨str (s.got (isWhat kindsL s.nx)), str [], n, who⟩ := by unfold ruleOf; rw [hmod, h4', hn, hw]
      have hro' : ruleD (ruleOf s) = .agg [dS (str (s.got (isWhat kindsL s.nx))), dS (str []), dI n, .sl (ints who)] := by rw [hro]; rfl
      refine ⟨rsO e t, Gs, ruleD (ruleOf s), rs_below _ _ _, rfl, by rw [hro']; exact Deep.refl _ _, by rw [hro']; simp [below_agg, below_sl, below_lit, ints, D.leaves], ?_⟩
      rw [hw] at hQ; exact hQ
    simp -dsimp -implicitDefEqProofs (maxSteps := 1000000) (disch := first | omega | (simp only [List.length_append, List.length_cons, List.length_nil]; omega) | (intros; simp only [ne_eq, reduceCtorEq, not_false_eq_true] <;> fail)) only [DL.R, Nat.reduceEqDiff, ↓reduceIte, reduceCtorEq, Int.reduceToNat, Int.reduceLE, Int.reduceLT, Nat.reduceLeDiff, Nat.reduceAdd, Nat.reduceMul, Int.reduceBNe, Int.reduceBEq, Int.cast_ofNat_Int, decide_true, decide_false, ne_eq, eq_self, implies_true, dc30_r0, dc30_r1, dc30_r2, dc30_r3, dc30_r4, dc30_r5, dc30_r6, dc30_r7, dc30_r8, dc30_r9, dc30_r10, dc30_r11, dc30_r12, dc30_r13, dc30_r14, dc30_r15, dc30, DL.dI, DL.dB, DL.dS, DL.set_lS, DL.get_lS, DL.get_ownS, DL.get_ownS0, DL.set_ownS, DL.set_ownS0, List.length_set]
    refine loop_i (fun s' H' => s' 0 = .ptr id 0 ∧ s' 2 = .ptr H.length 0 ∧ s' 3 = .ptr (H.length + 1) 0 ∧ ∃ (f : Nat) (t : RS) (least : Int) (who : List Int) (ver : Nat), t.ok ∧ -1000000000000000000 ≤ least ∧ least ≤ 1000000000000000001 ∧ t.left < f ∧ who.length + t.left ≤ 8193 ∧
        rsWho s = whoF f t least n who ∧ s' 4 = dI least ∧ H' = H.set id (rsO e t) ++ [.box 42 [.lit (.string (str [])), .lit (.string (str [])), .lit (.int .i64 0), .lit (.slice none 0 0)], .box 42 [dS (str (s.got (isWhat kindsL s.nx))), dS (str []), dI n, .row (H.length + 2) ver], .row true ver 3 1 (ints who)])
      (fun _ H' => msr id H') ?_ ?_
    · simp -dsimp -implicitDefEqProofs (maxSteps := 1000000) (disch := first | omega | (simp only [List.length_append, List.length_cons, List.length_nil]; omega) | (intros; simp only [ne_eq, reduceCtorEq, not_false_eq_true] <;> fail)) only [DL.R, Nat.reduceEqDiff, ↓reduceIte, reduceCtorEq, Int.reduceToNat, Int.reduceLE, Int.reduceLT, Nat.reduceLeDiff, Nat.reduceAdd, Nat.reduceMul, Int.reduceBNe, Int.reduceBEq, Int.cast_ofNat_Int, decide_true, decide_false, ne_eq, eq_self, implies_true, DL.dI, DL.dB, DL.dS]
      exact ⟨s6.left + 1, s6, 0, [], 0, ok6, by omega, by omega, by omega, by simpa using hleft6, hwho, rfl, rfl⟩
    · rintro s' H' ⟨g0, g2, g3, f, t, least, who, ver, okt, hl0, hl1, hf, hwl, hW, g4, rfl⟩
      obtain ⟨f, rfl⟩ : ∃ m, f = m + 1 := ⟨f - 1, by omega⟩
      rw [whoF] at hW
      have hil : (ints who).length = who.length := by simp [ints]
      by_cases hb : t.bad = true
      · rw [if_pos hb] at hW
        simp -dsimp -implicitDefEqProofs (maxSteps := 1000000) (disch := first | omega | (simp only [List.length_append, List.length_cons, List.length_nil]; omega) | (intros; simp only [ne_eq, reduceCtorEq, not_false_eq_true] <;> fail)) only [DL.R, Nat.reduceEqDiff, ↓reduceIte, reduceCtorEq, Int.reduceToNat, Int.reduceLE, Int.reduceLT, Nat.reduceLeDiff, Nat.reduceAdd, Nat.reduceMul, Int.reduceBNe, Int.reduceBEq, Int.cast_ofNat_Int, decide_true, decide_false, ne_eq, eq_self, implies_true, dc30_r0, dc30_r1, dc30_r2, dc30_r3, dc30_r4, dc30_r5, dc30_r6, dc30_r7, dc30_r8, dc30_r9, dc30_r10, dc30_r11, dc30_r12, dc30_r13, dc30_r14, dc30_r15, dc30, DL.dI, DL.dB, DL.dS, g0, g2, g3, g4, DL.set_lS, DL.get_lS, DL.get_ownS, DL.get_ownS0, DL.set_ownS, DL.set_ownS0, List.length_set, onBox_rs, hb]
        exact last who t _ hW
      · rw [if_neg hb] at hW
        have hb' : t.bad = false := by simpa using hb
        simp -dsimp -implicitDefEqProofs (maxSteps := 1000000) (disch := first | omega | (simp only [List.length_append, List.length_cons, List.length_nil]; omega) | (intros; simp only [ne_eq, reduceCtorEq, not_false_eq_true] <;> fail)) only [DL.R, Nat.reduceEqDiff, ↓reduceIte, reduceCtorEq, Int.reduceToNat, Int.reduceLE, Int.reduceLT, Nat.reduceLeDiff, Nat.reduceAdd, Nat.reduceMul, Int.reduceBNe, Int.reduceBEq, Int.cast_ofNat_Int, decide_true, decide_false, ne_eq, eq_self, implies_true, dc30_r0, dc30_r1, dc30_r2, dc30_r3, dc30_r4, dc30_r5, dc30_r6, dc30_r7, dc30_r8, dc30_r9, dc30_r10, dc30_r11, dc30_r12, dc30_r13, dc30_r14, dc30_r15, dc30, DL.dI, DL.dB, DL.dS, g0, g2, g3, g4, DL.set_lS, DL.get_lS, DL.get_ownS, DL.get_ownS0, DL.set_ownS, DL.set_ownS0, List.length_set, onBox_rs, hb']
        refine numR hE (s := t) okt least 7 (get_lS H _ _ id hid) ?_
        obtain ⟨u, hu⟩ : ∃ x, t.num least 7 = x := ⟨_, rfl⟩
        have oku : u.ok := hu ▸ RS.take_ok okt
        obtain ⟨w, hw⟩ : ∃ w, numT t.nx = w := ⟨_, rfl⟩
        have hwb : -1000000000000000000 ≤ w ∧ w ≤ 1000000000000000000 := hw ▸ numT_bound (RS.nx_len okt)
        have hul : u.left < t.left := hu ▸ (RS.take_left.2 hb')
        have hsn : ints (who ++ [w]) = ints who ++ [dI w] := ints_snoc _ _
        have hlw : ((who ++ [w]).length : Int) = (who.length : Int) + 1 := by simp
        rw [hu, hw] at hW ⊢
        rw [hlw] at hW
        simp -dsimp -implicitDefEqProofs (maxSteps := 1000000) (disch := first | omega | (simp only [List.length_append, List.length_cons, List.length_nil]; omega) | (intros; simp only [ne_eq, reduceCtorEq, not_false_eq_true] <;> fail)) only [DL.R, Nat.reduceEqDiff, ↓reduceIte, reduceCtorEq, Int.reduceToNat, Int.reduceLE, Int.reduceLT, Nat.reduceLeDiff, Nat.reduceAdd, Nat.reduceMul, Int.reduceBNe, Int.reduceBEq, Int.cast_ofNat_Int, decide_true, decide_false, ne_eq, eq_self, implies_true, dc30_r0, dc30_r1, dc30_r2, dc30_r3, dc30_r4, dc30_r5, dc30_r6, dc30_r7, dc30_r8, dc30_r9, dc30_r10, dc30_r11, dc30_r12, dc30_r13, dc30_r14, dc30_r15, dc30, DL.dI, DL.dB, DL.dS, g0, g2, g3, g4, DL.set_lS, DL.get_lS, DL.get_ownS, DL.get_ownS0, DL.set_ownS, DL.set_ownS0, List.length_set, hil]
        refine ⟨by omega, ?_⟩
        have hle : ((ints who ++ [D.lit (.int .i64 w)]).length : Int) = (who.length : Int) + 1 := by simp [ints]
        have hlen2 : ((who.length + 1 : Nat) : Int) = (who.length : Int) + 1 := by simp
        by_cases c1 : n ≤ (who.length : Int) + 1
        · have f1 : decide ((who.length : Int) + 1 ≥ n) = true := by simp; omega
          have f1' : decide (n ≤ (who.length : Int) + 1) = true := by simp; omega
          simp -dsimp -implicitDefEqProofs (maxSteps := 1000000) (disch := first | omega | (simp only [List.length_append, List.length_cons, List.length_nil]; omega) | (intros; simp only [ne_eq, reduceCtorEq, not_false_eq_true] <;> fail)) only [DL.R, Nat.reduceEqDiff, ↓reduceIte, reduceCtorEq, Int.reduceToNat, Int.reduceLE, Int.reduceLT, Nat.reduceLeDiff, Nat.reduceAdd, Nat.reduceMul, Int.reduceBNe, Int.reduceBEq, Int.cast_ofNat_Int, decide_true, decide_false, ne_eq, eq_self, implies_true, dc30_r0, dc30_r1, dc30_r2, dc30_r3, dc30_r4, dc30_r5, dc30_r6, dc30_r7, dc30_r8, dc30_r9, dc30_r10, dc30_r11, dc30_r12, dc30_r13, dc30_r14, dc30_r15, dc30, DL.dI, DL.dB, DL.dS, g0, g2, g3, g4, DL.set_lS, DL.get_lS, DL.get_ownS, DL.get_ownS0, DL.set_ownS, DL.set_ownS0, List.length_set, hil, List.length_append, Int.natCast_add, f1, DL.wrap_id]
          refine nextR (s := u) (get_lS H _ _ id hid) ?_
          by_cases c2 : u.nx = [44]
          · have f2 : (u.nx != [44]) = false := by simp [c2]
            have f3 : (u.nx == [44]) = true := by simp [c2]
            rw [f1', f2, f3] at hW
            simp only [Bool.and_false, Bool.false_eq_true, if_false] at hW
            simp -dsimp -implicitDefEqProofs (maxSteps := 1000000) (disch := first | omega | (simp only [List.length_append, List.length_cons, List.length_nil]; omega) | (intros; simp only [ne_eq, reduceCtorEq, not_false_eq_true] <;> fail)) only [DL.R, Nat.reduceEqDiff, ↓reduceIte, reduceCtorEq, Int.reduceToNat, Int.reduceLE, Int.reduceLT, Nat.reduceLeDiff, Nat.reduceAdd, Nat.reduceMul, Int.reduceBNe, Int.reduceBEq, Int.cast_ofNat_Int, decide_true, decide_false, ne_eq, eq_self, implies_true, dc30_r0, dc30_r1, dc30_r2, dc30_r3, dc30_r4, dc30_r5, dc30_r6, dc30_r7, dc30_r8, dc30_r9, dc30_r10, dc30_r11, dc30_r12, dc30_r13, dc30_r14, dc30_r15, dc30, DL.dI, DL.dB, DL.dS, g0, g2, g3, g4, DL.set_lS, DL.get_lS, DL.get_ownS, DL.get_ownS0, DL.set_ownS, DL.set_ownS0, List.length_set, hil, f3, DL.wrap_id]
            refine nextR (s := u) (get_lS H _ _ id hid) ?_
            simp -dsimp -implicitDefEqProofs (maxSteps := 1000000) (disch := first | omega | (simp only [List.length_append, List.length_cons, List.length_nil]; omega) | (intros; simp only [ne_eq, reduceCtorEq, not_false_eq_true] <;> fail)) only [DL.R, Nat.reduceEqDiff, ↓reduceIte, reduceCtorEq, Int.reduceToNat, Int.reduceLE, Int.reduceLT, Nat.reduceLeDiff, Nat.reduceAdd, Nat.reduceMul, Int.reduceBNe, Int.reduceBEq, Int.cast_ofNat_Int, decide_true, decide_false, ne_eq, eq_self, implies_true, dc30_r0, dc30_r1, dc30_r2, dc30_r3, dc30_r4, dc30_r5, dc30_r6, dc30_r7, dc30_r8, dc30_r9, dc30_r10, dc30_r11, dc30_r12, dc30_r13, dc30_r14, dc30_r15, dc30, DL.dI, DL.dB, DL.dS, g0, g2, g3, g4, DL.set_lS, DL.get_lS, DL.get_ownS, DL.get_ownS0, DL.set_ownS, DL.set_ownS0, List.length_set, hil, f3, DL.wrap_id]
            refine takeR (s := u) _ (get_lS H _ _ id hid) ?_
            simp -dsimp -implicitDefEqProofs (maxSteps := 1000000) (disch := first | omega | (simp only [List.length_append, List.length_cons, List.length_nil]; omega) | (intros; simp only [ne_eq, reduceCtorEq, not_false_eq_true] <;> fail)) only [DL.R, Nat.reduceEqDiff, ↓reduceIte, reduceCtorEq, Int.reduceToNat, Int.reduceLE, Int.reduceLT, Nat.reduceLeDiff, Nat.reduceAdd, Nat.reduceMul, Int.reduceBNe, Int.reduceBEq, Int.cast_ofNat_Int, decide_true, decide_false, ne_eq, eq_self, implies_true, dc30_r0, dc30_r1, dc30_r2, dc30_r3, dc30_r4, dc30_r5, dc30_r6, dc30_r7, dc30_r8, dc30_r9, dc30_r10, dc30_r11, dc30_r12, dc30_r13, dc30_r14, dc30_r15, dc30, DL.dI, DL.dB, DL.dS, g0, g2, g3, g4, DL.set_lS, DL.get_lS, DL.get_ownS, DL.get_ownS0, DL.set_ownS, DL.set_ownS0, List.length_set, hil, DL.wrap_id]
            have hul2 := (RS.take_left (s := u) (b := true)).1
            rw [msr_eq hid, msr_eq hid]
            exact ⟨⟨f, u.take true, w + 1, who ++ [w], ver + 1, RS.take_ok oku, by omega, by omega, by omega, by simp; omega, hW, rfl, by rw [hsn]⟩, by omega⟩
          · have f2 : (u.nx != [44]) = true := by simp [c2]
            have f3 : (u.nx == [44]) = false := by simp [c2]
            rw [f1', f2] at hW
            simp only [Bool.and_true, if_true] at hW
            simp -dsimp -implicitDefEqProofs (maxSteps := 1000000) (disch := first | omega | (simp only [List.length_append, List.length_cons, List.length_nil]; omega) | (intros; simp only [ne_eq, reduceCtorEq, not_false_eq_true] <;> fail)) only [DL.R, Nat.reduceEqDiff, ↓reduceIte, reduceCtorEq, Int.reduceToNat, Int.reduceLE, Int.reduceLT, Nat.reduceLeDiff, Nat.reduceAdd, Nat.reduceMul, Int.reduceBNe, Int.reduceBEq, Int.cast_ofNat_Int, decide_true, decide_false, ne_eq, eq_self, implies_true, dc30_r0, dc30_r1, dc30_r2, dc30_r3, dc30_r4, dc30_r5, dc30_r6, dc30_r7, dc30_r8, dc30_r9, dc30_r10, dc30_r11, dc30_r12, dc30_r13, dc30_r14, dc30_r15, dc30, DL.dI, DL.dB, DL.dS, g0, g2, g3, g4, DL.set_lS, DL.get_lS, DL.get_ownS, DL.get_ownS0, DL.set_ownS, DL.set_ownS0, List.length_set, hil, f3, DL.wrap_id]
            have := last (who ++ [w]) u
            rw [hsn] at this
            exact this _ hW
        · have f1 : decide ((who.length : Int) + 1 ≥ n) = false := by simp; omega
          have f1' : decide (n ≤ (who.length : Int) + 1) = false := by simp; omega
          rw [f1'] at hW
          simp only [Bool.false_and, Bool.false_eq_true, if_false] at hW
          simp -dsimp -implicitDefEqProofs (maxSteps := 1000000) (disch := first | omega | (simp only [List.length_append, List.length_cons, List.length_nil]; omega) | (intros; simp only [ne_eq, reduceCtorEq, not_false_eq_true] <;> fail)) only [DL.R, Nat.reduceEqDiff, ↓reduceIte, reduceCtorEq, Int.reduceToNat, Int.reduceLE, Int.reduceLT, Nat.reduceLeDiff, Nat.reduceAdd, Nat.reduceMul, Int.reduceBNe, Int.reduceBEq, Int.cast_ofNat_Int, decide_true, decide_false, ne_eq, eq_self, implies_true, dc30_r0, dc30_r1, dc30_r2, dc30_r3, dc30_r4, dc30_r5, dc30_r6, dc30_r7, dc30_r8, dc30_r9, dc30_r10, dc30_r11, dc30_r12, dc30_r13, dc30_r14, dc30_r15, dc30, DL.dI, DL.dB, DL.dS, g0, g2, g3, g4, DL.set_lS, DL.get_lS, DL.get_ownS, DL.get_ownS0, DL.set_ownS, DL.set_ownS0, List.length_set, hil, List.length_append, Int.natCast_add, f1, DL.wrap_id]
          refine nextR (s := u) (get_lS H _ _ id hid) ?_
          simp -dsimp -implicitDefEqProofs (maxSteps := 1000000) (disch := first | omega | (simp only [List.length_append, List.length_cons, List.length_nil]; omega) | (intros; simp only [ne_eq, reduceCtorEq, not_false_eq_true] <;> fail)) only [DL.R, Nat.reduceEqDiff, ↓reduceIte, reduceCtorEq, Int.reduceToNat, Int.reduceLE, Int.reduceLT, Nat.reduceLeDiff, Nat.reduceAdd, Nat.reduceMul, Int.reduceBNe, Int.reduceBEq, Int.cast_ofNat_Int, decide_true, decide_false, ne_eq, eq_self, implies_true, dc30_r0, dc30_r1, dc30_r2, dc30_r3, dc30_r4, dc30_r5, dc30_r6, dc30_r7, dc30_r8, dc30_r9, dc30_r10, dc30_r11, dc30_r12, dc30_r13, dc30_r14, dc30_r15, dc30, DL.dI, DL.dB, DL.dS, g0, g2, g3, g4, DL.set_lS, DL.get_lS, DL.get_ownS, DL.get_ownS0, DL.set_ownS, DL.set_ownS0, List.length_set, hil, DL.wrap_id]
          refine takeR (s := u) _ (get_lS H _ _ id hid) ?_
          simp -dsimp -implicitDefEqProofs (maxSteps := 1000000) (disch := first | omega | (simp only [List.length_append, List.length_cons, List.length_nil]; omega) | (intros; simp only [ne_eq, reduceCtorEq, not_false_eq_true] <;> fail)) only [DL.R, Nat.reduceEqDiff, ↓reduceIte, reduceCtorEq, Int.reduceToNat, Int.reduceLE, Int.reduceLT, Nat.reduceLeDiff, Nat.reduceAdd, Nat.reduceMul, Int.reduceBNe, Int.reduceBEq, Int.cast_ofNat_Int, decide_true, decide_false, ne_eq, eq_self, implies_true, dc30_r0, dc30_r1, dc30_r2, dc30_r3, dc30_r4, dc30_r5, dc30_r6, dc30_r7, dc30_r8, dc30_r9, dc30_r10, dc30_r11, dc30_r12, dc30_r13, dc30_r14, dc30_r15, dc30, DL.dI, DL.dB, DL.dS, g0, g2, g3, g4, DL.set_lS, DL.get_lS, DL.get_ownS, DL.get_ownS0, DL.set_ownS, DL.set_ownS0, List.length_set, hil, DL.wrap_id]
          have hul2 := (RS.take_left (s := u) (b := u.nx == [44])).1
          rw [msr_eq hid, msr_eq hid]
          exact ⟨⟨f, u.take (u.nx == [44]), w + 1, who ++ [w], ver + 1, RS.take_ok oku, by omega, by omega, by omega, by simp; omega, hW, rfl, by rw [hsn]⟩, by omega⟩
end Go.Proofs.Tryd
set_option maxRecDepth 100000
set_option linter.unusedSimpArgs false
set_option linter.unusedVariables false
namespace Go.Proofs.Tryd
open Go Go.DL
variable {G : Nat → D} {H : List O} {Q : D → List O → Prop}
def RS.suf (t s : RS) : Prop := t.l.length ≤ s.l.length ∧ t.l = s.l.drop (s.l.length - t.l.length)
theorem RS.suf_refl (s : RS) : s.suf s := ⟨Nat.le_refl _, by simp⟩
theorem RS.suf_trans {a b c : RS} (h : a.suf b) (k : b.suf c) : a.suf c := by
  obtain ⟨h1, h2⟩ := h
  obtain ⟨k1, k2⟩ := k
  refine ⟨by omega, ?_⟩
  rw [h2, k2, List.drop_drop]
  simp only [List.length_drop]
  congr 1; omega
theorem RS.suf_take {s : RS} {b : Bool} : (s.take b).suf s := by
  unfold RS.take
  split
  · exact ⟨Nat.le_refl _, by simp⟩
  · refine ⟨by simp, ?_⟩
    cases h : s.l with
    | nil => simp
    | cons t l => simp
theorem whoF_ok : ∀ (f : Nat) (s : RS) (least n : Int) (who : List Int), s.ok → (whoF f s least n who).2.ok ∧ (whoF f s least n who).2.left ≤ s.left ∧ (whoF f s least n who).2.suf s
  | 0, s, _, _, who, h => ⟨h, Nat.le_refl _, RS.suf_refl s⟩
  | f + 1, s, least, n, who, h => by
    rw [whoF]
    have h1 : (s.num least 7).ok := RS.take_ok h
    have h2 : (s.num least 7).left ≤ s.left := RS.take_left.1
    have h3 : (s.num least 7).suf s := RS.suf_take
    split
    · exact ⟨h, Nat.le_refl _, RS.suf_refl s⟩
    · split
      · exact ⟨h1, h2, h3⟩
      · obtain ⟨k1, k2, k3⟩ := whoF_ok f ((s.num least 7).take ((s.num least 7).nx == [44])) (numT s.nx + 1) n (who ++ [numT s.nx]) (RS.take_ok h1)
        have h4 := (RS.take_left (s := s.num least 7) (b := (s.num least 7).nx == [44])).1
        exact ⟨k1, by omega, RS.suf_trans (RS.suf_trans k3 RS.suf_take) h3⟩
theorem rs3_ok {s : RS} (h : s.ok) : (rs3 s).ok ∧ (rs3 s).left ≤ (rs1 s).left ∧ (rs3 s).suf (rs1 s) := by
  have h1 : (rs1 s).ok := RS.take_ok h
  unfold rs3
  split
  · have h2 : (rs2 s).ok := RS.take_ok h1
    have l2 : (rs2 s).left ≤ (rs1 s).left := RS.take_left.1
    have l3 := (RS.take_left (s := rs2 s) (b := isWord kwL (rs2 s).nx)).1
    exact ⟨RS.take_ok h2, by omega, RS.suf_trans RS.suf_take RS.suf_take⟩
  · exact ⟨h1, Nat.le_refl _, RS.suf_refl _⟩
theorem rsWho_ok {s : RS} (h : s.ok) : (rsWho s).2.ok ∧ (s.bad = false → (rsWho s).2.left < s.left) ∧ (rsWho s).2.suf s := by
  obtain ⟨h3, l3, f3⟩ := rs3_ok h
  have l1 : s.bad = false → (rs1 s).left < s.left := RS.take_left.2
  have f1 : (rs1 s).suf s := RS.suf_take
  have h4 : (rs4 s).ok := RS.take_ok h3
  have l4 : (rs4 s).left ≤ (rs3 s).left := RS.take_left.1
  have f4 : (rs4 s).suf (rs3 s) := RS.suf_take
  have h5 : (rs5 s).ok := RS.take_ok h4
  have l5 : (rs5 s).left ≤ (rs4 s).left := RS.take_left.1
  have f5 : (rs5 s).suf (rs4 s) := RS.suf_take
  have h6 : (rs6 s).ok := RS.take_ok h5
  have l6 : (rs6 s).left ≤ (rs5 s).left := RS.take_left.1
  have f6 : (rs6 s).suf (rs5 s) := RS.suf_take
  obtain ⟨k1, k2, k3⟩ := whoF_ok ((rs6 s).left + 1) (rs6 s) 0 (numT (rs4 s).nx) [] h6
  unfold rsWho
  exact ⟨k1, fun hb => by have := l1 hb; omega, RS.suf_trans (RS.suf_trans (RS.suf_trans (RS.suf_trans (RS.suf_trans k3 f6) f5) f4) f3) f1⟩
def parseF : Nat → RS → List Rule → List Rule × RS
  | 0, s, out => (out, s)
  | f + 1, s, out => if s.bad || s.l.length == 0 then (out, s) else if out.length = 64 then (out, ⟨s.l, true⟩) else parseF f (rsWho s).2 (out ++ [ruleOf s])
def offs : List Tok → Nat
  | [] => 0
  | t :: l => t.before.length + t.text.length + offs l
def parseEnd (n : Nat) (ts : List Tok) (r : List Rule × RS) : List Rule × Int :=
  if r.2.bad = false then (r.1, -1) else match r.2.l with
  | [] => ([], (n : Int))
  | t :: _ => ([], ((offs (ts.take (ts.length - r.2.l.length)) + t.before.length : Nat) : Int))
def parseP (l : List UInt8) : List Rule × Int :=
  if (scan l).2.2 ≠ -1 then ([], (scan l).2.2) else parseEnd l.length (scan l).1 (parseF (RS.left ⟨(scan l).1, false⟩ + 1) ⟨(scan l).1, false⟩ [])
def parseD (x : List Rule × Int) : D := .tup [.sl (rulesD x.1), dI x.2]
theorem scanN_ok : ∀ (n : Nat) (r : List UInt8) (p : Nat) (acc : List Tok), (∀ t ∈ acc, t.text.length ≤ 16 ∧ t.text ≠ []) → acc.length ≤ p → (scanN n r p acc).1.length ≤ p + r.length ∧ (∀ t ∈ (scanN n r p acc).1, t.text.length ≤ 16 ∧ t.text ≠ []) ∧ offs (scanN n r p acc).1 ≤ offs acc + r.length
  | 0, r, p, acc, h, hl => by simp [scanN, offs]
  | n + 1, r, p, acc, h, hl => by
    rw [scanN]
    split
    · exact ⟨by simp; omega, h, by simp⟩
    · rename_i h1
      split
      · exact ⟨by simp, by simp, by simp [offs]⟩
      · rename_i h2
        obtain ⟨b, r', hb⟩ : ∃ b r', r.drop (bl false r) = b :: r' := by
          cases hh : r.drop (bl false r) with
          | nil => exact absurd hh h1
          | cons b r' => exact ⟨b, r', rfl⟩
        have hle := tok_le b r'
        rw [← hb, List.length_drop] at hle
        have hble := bl_le false r
        have h16 : tok (r.drop (bl false r)) ≤ 16 := by
          rw [hb]
          have hsh : ∀ n, short n ≤ 16 := fun n => by unfold short; split <;> omega
          simp only [tok]
          split
          · exact hsh _
          · split
            · exact hsh _
            · cases hf : signsL.find? fun x => Lib.hasPrefix (b :: r') x with
              | none => simp
              | some x =>
                have := List.mem_of_find?_eq_some hf
                simp only [signsL, List.mem_cons, List.not_mem_nil, or_false] at this
                rcases this with rfl | rfl | rfl | rfl | rfl | rfl | rfl | rfl | rfl | rfl | rfl | rfl | rfl | rfl | rfl | rfl | rfl | rfl <;> simp
        have hoff : ∀ (a : List Tok) (t : Tok), offs (a ++ [t]) = offs a + (t.before.length + t.text.length) := by
          intro a t
          induction a with
          | nil => simp [offs]
          | cons x a ih => simp [offs, ih]; omega
        obtain ⟨i1, i2, i3⟩ := scanN_ok n ((r.drop (bl false r)).drop (tok (r.drop (bl false r)))) (p + bl false r + tok (r.drop (bl false r))) (acc ++ [⟨(r.drop (bl false r)).take (tok (r.drop (bl false r))), r.take (bl false r)⟩]) (by
          intro t ht
          rcases List.mem_append.1 ht with q | q
          · exact h t q
          · simp only [List.mem_singleton] at q
            subst q
            refine ⟨by simp; omega, ?_⟩
            intro q
            have := congrArg List.length q
            simp at this; omega) (by simp; omega)
        refine ⟨by simp at i1 ⊢; omega, i2, ?_⟩
        rw [hoff] at i3
        simp at i3 ⊢; omega
theorem scan_ok (l : List UInt8) : (scan l).1.length ≤ 8192 ∧ (∀ t ∈ (scan l).1, t.text.length ≤ 16 ∧ t.text ≠ []) ∧ offs (scan l).1 ≤ 8192 := by
  unfold scan
  split
  · simp [offs]
  · obtain ⟨h1, h2, h3⟩ := scanN_ok (l.length + 1) l 0 [] (by simp) (by simp)
    exact ⟨by omega, h2, by simp [offs] at h3; omega⟩
theorem offs_snoc (a : List Tok) (t : Tok) : offs (a ++ [t]) = offs a + (t.before.length + t.text.length) := by
  induction a with
  | nil => simp [offs]
  | cons x a ih => simp [offs, ih]; omega
theorem offs_take (a : List Tok) (n : Nat) : offs (a.take n) ≤ offs a := by
  induction a generalizing n with
  | nil => simp [offs]
  | cons x a ih =>
    cases n with
    | zero => simp [offs]
    | succ n => have := ih n; simp [offs]; omega
theorem parse_spec (hE : Env G) (l : List UInt8) (hl : l.length ≤ 1099511627776) (hQ : Q (parseD (parseP l)) H) : CallA Tryd.prog G 14 [dS (str l)] H Q := by
  refine CallA.deep (s14 (Nat.le_of_ble_eq_true rfl) ?_)
  have hbel : ∀ x, Below H.length (parseD x) := fun x => by
    simp [parseD, below_tup, below_lit]; exact below_rules _ _
  have fin : ∀ (Gs : List O) (d : D), Deep (H ++ DL.frzAll Gs) d (parseD (parseP l)) → ∃ Gs_1 d', H ++ Gs = H ++ Gs_1 ∧ Deep (H ++ DL.frzAll Gs_1) d d' ∧ Below H.length d' ∧ Q d' H := fun Gs d hd => ⟨Gs, _, rfl, hd, hbel _, hQ⟩
  simp -dsimp -implicitDefEqProofs (maxSteps := 1000000) (disch := first | omega | (simp only [List.length_append, List.length_cons, List.length_nil]; omega) | (intros; simp only [ne_eq, reduceCtorEq, not_false_eq_true] <;> fail)) only [DL.R, Nat.reduceEqDiff, ↓reduceIte, reduceCtorEq, Int.reduceToNat, Int.reduceLE, Int.reduceLT, Nat.reduceLeDiff, Nat.reduceAdd, Nat.reduceMul, Int.reduceBNe, Int.reduceBEq, Int.cast_ofNat_Int, decide_true, decide_false, ne_eq, eq_self, implies_true, dc14_r0, dc14_r1, dc14_r2, dc14_r3, dc14_r4, dc14_r5, dc14_r6, dc14_r7, dc14_r8, dc14_r9, dc14_r10, dc14_r11, dc14_r12, dc14_r13, dc14_r14, dc14_r15, dc14_r16, dc14_r17, dc14_r18, dc14_r19, dc14_r20, dc14, DL.dI, DL.dB, DL.dS]
  refine scan_spec hE l hl ?_
  obtain ⟨k1, k2, k3⟩ := scan_ok l
  obtain ⟨ts, rest, p, hsc⟩ : ∃ ts rest p, scan l = (ts, rest, p) := ⟨_, _, _, rfl⟩
  have hP : parseP l = if p ≠ -1 then ([], p) else parseEnd l.length ts (parseF (RS.left ⟨ts, false⟩ + 1) ⟨ts, false⟩ []) := by unfold parseP; rw [hsc]
  rw [hsc] at k1 k2 k3 ⊢
  simp only at k1 k2 k3
  unfold scanD
  by_cases c0 : p = -1
  · have e0 : (p != -1) = false := by simp [c0]
    rw [if_neg (by simp [c0])] at hP
    simp -dsimp -implicitDefEqProofs (maxSteps := 1000000) (disch := first | omega | (simp only [List.length_append, List.length_cons, List.length_nil]; omega) | (intros; simp only [ne_eq, reduceCtorEq, not_false_eq_true] <;> fail)) only [DL.R, Nat.reduceEqDiff, ↓reduceIte, reduceCtorEq, Int.reduceToNat, Int.reduceLE, Int.reduceLT, Nat.reduceLeDiff, Nat.reduceAdd, Nat.reduceMul, Int.reduceBNe, Int.reduceBEq, Int.cast_ofNat_Int, decide_true, decide_false, ne_eq, eq_self, implies_true, dc14_r0, dc14_r1, dc14_r2, dc14_r3, dc14_r4, dc14_r5, dc14_r6, dc14_r7, dc14_r8, dc14_r9, dc14_r10, dc14_r11, dc14_r12, dc14_r13, dc14_r14, dc14_r15, dc14_r16, dc14_r17, dc14_r18, dc14_r19, dc14_r20, dc14, DL.dI, DL.dB, DL.dS, e0]
    refine ⟨by omega, ?_⟩
    obtain ⟨r, hr⟩ : ∃ r, parseF (RS.left ⟨ts, false⟩ + 1) ⟨ts, false⟩ [] = r := ⟨_, rfl⟩
    rw [hr] at hP
    refine loop_i (fun s' H' => s' 0 = dS (str l) ∧ s' 4 = .sl (toksD ts) ∧ s' 7 = .ptr H.length 0 ∧ ∃ (f : Nat) (s : RS) (out : List Rule) (ver : Nat), s.ok ∧ RS.suf s ⟨ts, false⟩ ∧ s.left < f ∧ out.length ≤ 64 ∧ r = parseF f s out ∧ s' 8 = .row (H.length + 1) ver ∧ H' = H ++ [rsO 60 s, .row true ver 42 4 (rulesD out)])
      (fun _ H' => msr H.length H') ?_ ?_
    · simp -dsimp -implicitDefEqProofs (maxSteps := 1000000) (disch := first | omega | (simp only [List.length_append, List.length_cons, List.length_nil]; omega) | (intros; simp only [ne_eq, reduceCtorEq, not_false_eq_true] <;> fail)) only [DL.R, Nat.reduceEqDiff, ↓reduceIte, reduceCtorEq, Int.reduceToNat, Int.reduceLE, Int.reduceLT, Nat.reduceLeDiff, Nat.reduceAdd, Nat.reduceMul, Int.reduceBNe, Int.reduceBEq, Int.cast_ofNat_Int, decide_true, decide_false, ne_eq, eq_self, implies_true, DL.dI, DL.dB, DL.dS]
      exact ⟨RS.left ⟨ts, false⟩ + 1, ⟨ts, false⟩, [], 0, ⟨k1, fun t ht => (k2 t ht).1⟩, RS.suf_refl _, by omega, by simp, hr.symm, rfl, rfl⟩
    · rintro s' H' ⟨g0, g4, g7, f, s, out, ver, hs, hsuf, hf, ho, hF, g8, rfl⟩
      obtain ⟨f, rfl⟩ : ∃ m, f = m + 1 := ⟨f - 1, by omega⟩
      rw [parseF] at hF
      have hlen : (rulesD out).length = out.length := rules_len out
      have htl : (toksD s.l).length = s.l.length := by simp [toksD]
      have htl2 : (toksD ts).length = ts.length := by simp [toksD]
      have ht2 : ∀ y ∈ toksD ts, y.leaves.length = 2 := by
        intro y hy; obtain ⟨t, _, rfl⟩ := List.mem_map.1 hy; rfl
      by_cases hb : s.bad = true
      · rw [if_pos (by simp [hb])] at hF
        cases hsl2 : s.l with
        | nil =>
          have hz : parseP l = ([], (l.length : Int)) := by rw [hP, hF]; simp [parseEnd, hb, hsl2]
          simp -dsimp -implicitDefEqProofs (maxSteps := 1000000) (disch := first | omega | (simp only [List.length_append, List.length_cons, List.length_nil]; omega) | (intros; simp only [ne_eq, reduceCtorEq, not_false_eq_true] <;> fail)) only [DL.R, Nat.reduceEqDiff, ↓reduceIte, reduceCtorEq, Int.reduceToNat, Int.reduceLE, Int.reduceLT, Nat.reduceLeDiff, Nat.reduceAdd, Nat.reduceMul, Int.reduceBNe, Int.reduceBEq, Int.cast_ofNat_Int, decide_true, decide_false, ne_eq, eq_self, implies_true, dc14_r0, dc14_r1, dc14_r2, dc14_r3, dc14_r4, dc14_r5, dc14_r6, dc14_r7, dc14_r8, dc14_r9, dc14_r10, dc14_r11, dc14_r12, dc14_r13, dc14_r14, dc14_r15, dc14_r16, dc14_r17, dc14_r18, dc14_r19, dc14_r20, dc14, DL.dI, DL.dB, DL.dS, g0, g4, g7, g8, onBox_rs, hb, hsl2, toksD]
          exact fin _ _ (by rw [hz]; exact Deep.tup2 (Deep.nil _) (Deep.refl _ _))
        | cons t0 rest' =>
          have hul : toksD s.l = tokD t0 :: toksD rest' := by rw [hsl2]; rfl
          have hul3 : toksD (t0 :: rest') = tokD t0 :: toksD rest' := rfl
          have hln : (toksD rest').length = rest'.length := by simp [toksD]
          have hle1 : rest'.length + 1 ≤ ts.length := by have := hsuf.1; simp only [hsl2, List.length_cons] at this; exact this
          have hnz : (((rest'.length + 1 : Nat) : Int) == 0) = false := by simp; omega
          have hnn : ((ts.length : Int) - ((rest'.length + 1 : Nat) : Int)).toNat = ts.length - (rest'.length + 1) := by omega
          obtain ⟨a, ha⟩ : ∃ a, ts.take (ts.length - (rest'.length + 1)) = a := ⟨_, rfl⟩
          have hsl : (toksD ts).take (ts.length - (rest'.length + 1)) = toksD a := by rw [← ha]; simp [toksD]
          have hal : a.length = ts.length - (rest'.length + 1) := by rw [← ha]; simp
          have hao : offs a ≤ 8192 := by rw [← ha]; exact Nat.le_trans (offs_take _ _) k3
          have hdl : (toksD a).length = a.length := by simp [toksD]
          simp -dsimp -implicitDefEqProofs (maxSteps := 1000000) (disch := first | omega | (simp only [List.length_append, List.length_cons, List.length_nil]; omega) | (intros; simp only [ne_eq, reduceCtorEq, not_false_eq_true] <;> fail)) only [DL.R, Nat.reduceEqDiff, ↓reduceIte, reduceCtorEq, Int.reduceToNat, Int.reduceLE, Int.reduceLT, Nat.reduceLeDiff, Nat.reduceAdd, Nat.reduceMul, Int.reduceBNe, Int.reduceBEq, Int.cast_ofNat_Int, decide_true, decide_false, ne_eq, eq_self, implies_true, dc14_r0, dc14_r1, dc14_r2, dc14_r3, dc14_r4, dc14_r5, dc14_r6, dc14_r7, dc14_r8, dc14_r9, dc14_r10, dc14_r11, dc14_r12, dc14_r13, dc14_r14, dc14_r15, dc14_r16, dc14_r17, dc14_r18, dc14_r19, dc14_r20, dc14, DL.dI, DL.dB, DL.dS, g0, g4, g7, g8, onBox_rs, hb, hul, hul3, htl2, hln, hnz, hnn, hsl, DL.wrap_id]
          refine ⟨by omega, by omega, ht2, ?_⟩
          refine for_i 72 a.length (fun k s' H' => (∃ Gs, H' = H ++ (rsO 60 s :: Gs)) ∧ s' 0 = dS (str l) ∧ s' 7 = .ptr H.length 0 ∧ s' 6 = dI (offs (a.take k)) ∧ s' 70 = .sl (toksD a) ∧ s' 71 = dI a.length) ?_ ?_ ?_
          · simp -dsimp -implicitDefEqProofs (maxSteps := 1000000) (disch := first | omega | (simp only [List.length_append, List.length_cons, List.length_nil]; omega) | (intros; simp only [ne_eq, reduceCtorEq, not_false_eq_true] <;> fail)) only [DL.R, Nat.reduceEqDiff, ↓reduceIte, reduceCtorEq, Int.reduceToNat, Int.reduceLE, Int.reduceLT, Nat.reduceLeDiff, Nat.reduceAdd, Nat.reduceMul, Int.reduceBNe, Int.reduceBEq, Int.cast_ofNat_Int, decide_true, decide_false, ne_eq, eq_self, implies_true, DL.dI, DL.dB, DL.dS]
          · simp -dsimp -implicitDefEqProofs (maxSteps := 1000000) (disch := first | omega | (simp only [List.length_append, List.length_cons, List.length_nil]; omega) | (intros; simp only [ne_eq, reduceCtorEq, not_false_eq_true] <;> fail)) only [DL.R, Nat.reduceEqDiff, ↓reduceIte, reduceCtorEq, Int.reduceToNat, Int.reduceLE, Int.reduceLT, Nat.reduceLeDiff, Nat.reduceAdd, Nat.reduceMul, Int.reduceBNe, Int.reduceBEq, Int.cast_ofNat_Int, decide_true, decide_false, ne_eq, eq_self, implies_true, DL.dI, DL.dB, DL.dS, g0, g7, hdl]
            exact ⟨⟨_, rfl⟩, by simp [offs]⟩
          · rintro k s' H' hk ht ⟨⟨Gs, rfl⟩, j0, j7, j6, j70, j71⟩
            unfold toksD at j70
            by_cases c5 : k < a.length
            · have f5 : decide ((k : Int) < (a.length : Int)) = true := by simp; omega
              obtain ⟨q, hq⟩ : ∃ q, a[k] = q := ⟨_, rfl⟩
              have htk : a.take (k + 1) = a.take k ++ [q] := by rw [List.take_succ_eq_append_getElem c5, hq]
              have hoq : offs (a.take (k + 1)) = offs (a.take k) + (q.before.length + q.text.length) := by rw [htk, offs_snoc]
              have hob := offs_take a (k + 1)
              simp -dsimp -implicitDefEqProofs (maxSteps := 1000000) (disch := first | omega | (simp only [List.length_append, List.length_cons, List.length_nil]; omega) | (intros; simp only [ne_eq, reduceCtorEq, not_false_eq_true] <;> fail)) only [DL.R, Nat.reduceEqDiff, ↓reduceIte, reduceCtorEq, Int.reduceToNat, Int.reduceLE, Int.reduceLT, Nat.reduceLeDiff, Nat.reduceAdd, Nat.reduceMul, Int.reduceBNe, Int.reduceBEq, Int.cast_ofNat_Int, decide_true, decide_false, ne_eq, eq_self, implies_true, dc14_r0, dc14_r1, dc14_r2, dc14_r3, dc14_r4, dc14_r5, dc14_r6, dc14_r7, dc14_r8, dc14_r9, dc14_r10, dc14_r11, dc14_r12, dc14_r13, dc14_r14, dc14_r15, dc14_r16, dc14_r17, dc14_r18, dc14_r19, dc14_r20, dc14, DL.dI, DL.dB, DL.dS, j0, j7, j6, j70, j71, ht, f5, hq, tokD, DL.wrap_id]
              exact ⟨c5, ⟨_, rfl⟩, by rw [hoq]; simp, rfl⟩
            · have f5 : decide ((k : Int) < (a.length : Int)) = false := by simp; omega
              have htk : a.take k = a := List.take_of_length_le (by omega)
              have hbf : t0.before.length ≤ 8192 := by
                have hm : t0 ∈ ts := by
                  have := hsuf.2
                  simp only [hsl2] at this
                  exact List.mem_of_mem_drop (this ▸ List.mem_cons_self)
                obtain ⟨x, y, hxy⟩ := List.append_of_mem hm
                have : offs (x ++ t0 :: y) ≤ 8192 := hxy ▸ k3
                have hx : ∀ z : List Tok, t0.before.length ≤ offs (z ++ t0 :: y) := by
                  intro z
                  induction z with
                  | nil => simp [offs]; omega
                  | cons w z ih => simp [offs]; omega
                have := hx x; omega
              simp -dsimp -implicitDefEqProofs (maxSteps := 1000000) (disch := first | omega | (simp only [List.length_append, List.length_cons, List.length_nil]; omega) | (intros; simp only [ne_eq, reduceCtorEq, not_false_eq_true] <;> fail)) only [DL.R, Nat.reduceEqDiff, ↓reduceIte, reduceCtorEq, Int.reduceToNat, Int.reduceLE, Int.reduceLT, Nat.reduceLeDiff, Nat.reduceAdd, Nat.reduceMul, Int.reduceBNe, Int.reduceBEq, Int.cast_ofNat_Int, decide_true, decide_false, ne_eq, eq_self, implies_true, dc14_r0, dc14_r1, dc14_r2, dc14_r3, dc14_r4, dc14_r5, dc14_r6, dc14_r7, dc14_r8, dc14_r9, dc14_r10, dc14_r11, dc14_r12, dc14_r13, dc14_r14, dc14_r15, dc14_r16, dc14_r17, dc14_r18, dc14_r19, dc14_r20, dc14, DL.dI, DL.dB, DL.dS, j0, j7, j6, j70, j71, ht, f5, htk, onBox_rs, hul, hul3, DL.onIdx_zero, tokD, DL.wrap_id]
              refine fin _ _ ?_
              have hz : parseP l = ([], ((offs a + t0.before.length : Nat) : Int)) := by
                rw [hP, hF]; simp only [parseEnd, hb, hsl2, Bool.true_eq_false, if_false, List.length_cons, ha]
              rw [hz]
              simp only [parseD, Int.natCast_add]
              exact Deep.tup2 (Deep.nil _) (Deep.refl _ _)
      · have hb' : s.bad = false := by simpa using hb
        cases hsl2 : s.l with
        | nil =>
          rw [if_pos (by simp [hsl2])] at hF
          have hz : parseP l = (out, -1) := by rw [hP, hF]; simp [parseEnd, hb']
          have f0 : decide ((0 : Int) > 0) = false := by simp
          have hsl0 : toksD s.l = [] := by rw [hsl2]; rfl
          simp -dsimp -implicitDefEqProofs (maxSteps := 1000000) (disch := first | omega | (simp only [List.length_append, List.length_cons, List.length_nil]; omega) | (intros; simp only [ne_eq, reduceCtorEq, not_false_eq_true] <;> fail)) only [DL.R, Nat.reduceEqDiff, ↓reduceIte, reduceCtorEq, Int.reduceToNat, Int.reduceLE, Int.reduceLT, Nat.reduceLeDiff, Nat.reduceAdd, Nat.reduceMul, Int.reduceBNe, Int.reduceBEq, Int.cast_ofNat_Int, decide_true, decide_false, ne_eq, eq_self, implies_true, dc14_r0, dc14_r1, dc14_r2, dc14_r3, dc14_r4, dc14_r5, dc14_r6, dc14_r7, dc14_r8, dc14_r9, dc14_r10, dc14_r11, dc14_r12, dc14_r13, dc14_r14, dc14_r15, dc14_r16, dc14_r17, dc14_r18, dc14_r19, dc14_r20, dc14, DL.dI, DL.dB, DL.dS, g0, g4, g7, g8, onBox_rs, hb', hsl0, f0]
          refine fin _ _ ?_
          rw [hz]
          exact Deep.tup2 (Deep.own (id := 1) rfl) (Deep.refl _ _)
        | cons t0 rest' =>
          have hul : toksD s.l = tokD t0 :: toksD rest' := by rw [hsl2]; rfl
          have hul3 : toksD (t0 :: rest') = tokD t0 :: toksD rest' := rfl
          have hln : (toksD rest').length = rest'.length := by simp [toksD]
          have hle1 : rest'.length + 1 ≤ ts.length := by have := hsuf.1; simp only [hsl2, List.length_cons] at this; exact this
          have hnz : (((rest'.length + 1 : Nat) : Int) == 0) = false := by simp; omega
          have hpos : decide (((rest'.length + 1 : Nat) : Int) > 0) = true := decide_eq_true (by omega)
          rw [if_neg (by simp [hb', hsl2])] at hF
          by_cases c64 : out.length = 64
          · have f64 : ((out.length : Int) == 64) = true := by simp; omega
            rw [if_pos c64] at hF
            have hnn : ((ts.length : Int) - ((rest'.length + 1 : Nat) : Int)).toNat = ts.length - (rest'.length + 1) := by omega
            obtain ⟨a, ha⟩ : ∃ a, ts.take (ts.length - (rest'.length + 1)) = a := ⟨_, rfl⟩
            have hsl : (toksD ts).take (ts.length - (rest'.length + 1)) = toksD a := by rw [← ha]; simp [toksD]
            have hal : a.length = ts.length - (rest'.length + 1) := by rw [← ha]; simp
            have hao : offs a ≤ 8192 := by rw [← ha]; exact Nat.le_trans (offs_take _ _) k3
            have hdl : (toksD a).length = a.length := by simp [toksD]
            simp -dsimp -implicitDefEqProofs (maxSteps := 1000000) (disch := first | omega | (simp only [List.length_append, List.length_cons, List.length_nil]; omega) | (intros; simp only [ne_eq, reduceCtorEq, not_false_eq_true] <;> fail)) only [DL.R, Nat.reduceEqDiff, ↓reduceIte, reduceCtorEq, Int.reduceToNat, Int.reduceLE, Int.reduceLT, Nat.reduceLeDiff, Nat.reduceAdd, Nat.reduceMul, Int.reduceBNe, Int.reduceBEq, Int.cast_ofNat_Int, decide_true, decide_false, ne_eq, eq_self, implies_true, dc14_r0, dc14_r1, dc14_r2, dc14_r3, dc14_r4, dc14_r5, dc14_r6, dc14_r7, dc14_r8, dc14_r9, dc14_r10, dc14_r11, dc14_r12, dc14_r13, dc14_r14, dc14_r15, dc14_r16, dc14_r17, dc14_r18, dc14_r19, dc14_r20, dc14, DL.dI, DL.dB, DL.dS, g0, g4, g7, g8, onBox_rs, hb', hpos, hlen, f64, hsl2, hul, hul3, htl2, hln, hnz, hnn, hsl, DL.wrap_id]
            refine ⟨by omega, by omega, ht2, ?_⟩
            refine for_i 72 a.length (fun k s' H' => (∃ Gs, H' = H ++ (rsO 60 ⟨t0 :: rest', true⟩ :: Gs)) ∧ s' 0 = dS (str l) ∧ s' 7 = .ptr H.length 0 ∧ s' 6 = dI (offs (a.take k)) ∧ s' 70 = .sl (toksD a) ∧ s' 71 = dI a.length) ?_ ?_ ?_
            · simp -dsimp -implicitDefEqProofs (maxSteps := 1000000) (disch := first | omega | (simp only [List.length_append, List.length_cons, List.length_nil]; omega) | (intros; simp only [ne_eq, reduceCtorEq, not_false_eq_true] <;> fail)) only [DL.R, Nat.reduceEqDiff, ↓reduceIte, reduceCtorEq, Int.reduceToNat, Int.reduceLE, Int.reduceLT, Nat.reduceLeDiff, Nat.reduceAdd, Nat.reduceMul, Int.reduceBNe, Int.reduceBEq, Int.cast_ofNat_Int, decide_true, decide_false, ne_eq, eq_self, implies_true, DL.dI, DL.dB, DL.dS]
            · simp -dsimp -implicitDefEqProofs (maxSteps := 1000000) (disch := first | omega | (simp only [List.length_append, List.length_cons, List.length_nil]; omega) | (intros; simp only [ne_eq, reduceCtorEq, not_false_eq_true] <;> fail)) only [DL.R, Nat.reduceEqDiff, ↓reduceIte, reduceCtorEq, Int.reduceToNat, Int.reduceLE, Int.reduceLT, Nat.reduceLeDiff, Nat.reduceAdd, Nat.reduceMul, Int.reduceBNe, Int.reduceBEq, Int.cast_ofNat_Int, decide_true, decide_false, ne_eq, eq_self, implies_true, DL.dI, DL.dB, DL.dS, g0, g7, hdl]
              exact ⟨⟨_, rfl⟩, by simp [offs]⟩
            · rintro k s' H' hk ht ⟨⟨Gs, rfl⟩, j0, j7, j6, j70, j71⟩
              unfold toksD at j70
              by_cases c5 : k < a.length
              · have f5 : decide ((k : Int) < (a.length : Int)) = true := by simp; omega
                obtain ⟨q, hq⟩ : ∃ q, a[k] = q := ⟨_, rfl⟩
                have htk : a.take (k + 1) = a.take k ++ [q] := by rw [List.take_succ_eq_append_getElem c5, hq]
                have hoq : offs (a.take (k + 1)) = offs (a.take k) + (q.before.length + q.text.length) := by rw [htk, offs_snoc]
                have hob := offs_take a (k + 1)
                simp -dsimp -implicitDefEqProofs (maxSteps := 1000000) (disch := first | omega | (simp only [List.length_append, List.length_cons, List.length_nil]; omega) | (intros; simp only [ne_eq, reduceCtorEq, not_false_eq_true] <;> fail)) only [DL.R, Nat.reduceEqDiff, ↓reduceIte, reduceCtorEq, Int.reduceToNat, Int.reduceLE, Int.reduceLT, Nat.reduceLeDiff, Nat.reduceAdd, Nat.reduceMul, Int.reduceBNe, Int.reduceBEq, Int.cast_ofNat_Int, decide_true, decide_false, ne_eq, eq_self, implies_true, dc14_r0, dc14_r1, dc14_r2, dc14_r3, dc14_r4, dc14_r5, dc14_r6, dc14_r7, dc14_r8, dc14_r9, dc14_r10, dc14_r11, dc14_r12, dc14_r13, dc14_r14, dc14_r15, dc14_r16, dc14_r17, dc14_r18, dc14_r19, dc14_r20, dc14, DL.dI, DL.dB, DL.dS, j0, j7, j6, j70, j71, ht, f5, hq, tokD, DL.wrap_id]
                exact ⟨c5, ⟨_, rfl⟩, by rw [hoq]; simp, rfl⟩
              · have f5 : decide ((k : Int) < (a.length : Int)) = false := by simp; omega
                have htk : a.take k = a := List.take_of_length_le (by omega)
                have hbf : t0.before.length ≤ 8192 := by
                  have hm : t0 ∈ ts := by
                    have := hsuf.2
                    simp only [hsl2] at this
                    exact List.mem_of_mem_drop (this ▸ List.mem_cons_self)
                  obtain ⟨x, y, hxy⟩ := List.append_of_mem hm
                  have : offs (x ++ t0 :: y) ≤ 8192 := hxy ▸ k3
                  have hx : ∀ z : List Tok, t0.before.length ≤ offs (z ++ t0 :: y) := by
                    intro z
                    induction z with
                    | nil => simp [offs]; omega
                    | cons w z ih => simp [offs]; omega
                  have := hx x; omega
                simp -dsimp -implicitDefEqProofs (maxSteps := 1000000) (disch := first | omega | (simp only [List.length_append, List.length_cons, List.length_nil]; omega) | (intros; simp only [ne_eq, reduceCtorEq, not_false_eq_true] <;> fail)) only [DL.R, Nat.reduceEqDiff, ↓reduceIte, reduceCtorEq, Int.reduceToNat, Int.reduceLE, Int.reduceLT, Nat.reduceLeDiff, Nat.reduceAdd, Nat.reduceMul, Int.reduceBNe, Int.reduceBEq, Int.cast_ofNat_Int, decide_true, decide_false, ne_eq, eq_self, implies_true, dc14_r0, dc14_r1, dc14_r2, dc14_r3, dc14_r4, dc14_r5, dc14_r6, dc14_r7, dc14_r8, dc14_r9, dc14_r10, dc14_r11, dc14_r12, dc14_r13, dc14_r14, dc14_r15, dc14_r16, dc14_r17, dc14_r18, dc14_r19, dc14_r20, dc14, DL.dI, DL.dB, DL.dS, j0, j7, j6, j70, j71, ht, f5, htk, onBox_rs, hul, hul3, DL.onIdx_zero, tokD, DL.wrap_id]
                refine fin _ _ ?_
                have hz : parseP l = ([], ((offs a + t0.before.length : Nat) : Int)) := by
                  rw [hP, hF]; simp only [parseEnd, Bool.true_eq_false, hsl2, Bool.true_eq_false, if_false, List.length_cons, ha]
                rw [hz]
                exact Deep.tup2 (Deep.nil _) (Deep.refl _ _)
          · have f64 : ((out.length : Int) == 64) = false := by simp; omega
            rw [if_neg c64] at hF
            simp -dsimp -implicitDefEqProofs (maxSteps := 1000000) (disch := first | omega | (simp only [List.length_append, List.length_cons, List.length_nil]; omega) | (intros; simp only [ne_eq, reduceCtorEq, not_false_eq_true] <;> fail)) only [DL.R, Nat.reduceEqDiff, ↓reduceIte, reduceCtorEq, Int.reduceToNat, Int.reduceLE, Int.reduceLT, Nat.reduceLeDiff, Nat.reduceAdd, Nat.reduceMul, Int.reduceBNe, Int.reduceBEq, Int.cast_ofNat_Int, decide_true, decide_false, ne_eq, eq_self, implies_true, dc14_r0, dc14_r1, dc14_r2, dc14_r3, dc14_r4, dc14_r5, dc14_r6, dc14_r7, dc14_r8, dc14_r9, dc14_r10, dc14_r11, dc14_r12, dc14_r13, dc14_r14, dc14_r15, dc14_r16, dc14_r17, dc14_r18, dc14_r19, dc14_r20, dc14, DL.dI, DL.dB, DL.dS, g0, g4, g7, g8, onBox_rs, hb', hul, hln, hpos, hlen, f64]
            refine rule_spec hE s hs (by rw [get_own0]; rfl) ?_
            obtain ⟨w1, w2, w3⟩ := rsWho_ok hs
            have w2 := w2 hb'
            have hlr : (rulesD (out ++ [ruleOf s])).length = out.length + 1 := by simp [rulesD]
            simp -dsimp -implicitDefEqProofs (maxSteps := 1000000) (disch := first | omega | (simp only [List.length_append, List.length_cons, List.length_nil]; omega) | (intros; simp only [ne_eq, reduceCtorEq, not_false_eq_true] <;> fail)) only [DL.R, Nat.reduceEqDiff, ↓reduceIte, reduceCtorEq, Int.reduceToNat, Int.reduceLE, Int.reduceLT, Nat.reduceLeDiff, Nat.reduceAdd, Nat.reduceMul, Int.reduceBNe, Int.reduceBEq, Int.cast_ofNat_Int, decide_true, decide_false, ne_eq, eq_self, implies_true, dc14_r0, dc14_r1, dc14_r2, dc14_r3, dc14_r4, dc14_r5, dc14_r6, dc14_r7, dc14_r8, dc14_r9, dc14_r10, dc14_r11, dc14_r12, dc14_r13, dc14_r14, dc14_r15, dc14_r16, dc14_r17, dc14_r18, dc14_r19, dc14_r20, dc14, DL.dI, DL.dB, DL.dS, g0, g4, g7, g8, hlen, ruleD, ruleL]
            have hm1 : ∀ (u : RS) (Gs : List O), msr H.length (H ++ (rsO 60 u :: Gs)) = u.left := by
              intro u Gs; unfold msr; rw [get_own0]; simp [rsO, RS.left, toksD]
            rw [hm1, hm1]
            exact ⟨by omega, ⟨f, (rsWho s).2, out ++ [ruleOf s], ver + 1, w1, RS.suf_trans w3 hsuf, by omega, by simp; omega, hF, rfl, by rw [rulesD_snoc]; rfl⟩, w2⟩
  · have e0 : (p != -1) = true := by simp [c0]
    rw [if_pos c0] at hP
    simp -dsimp -implicitDefEqProofs (maxSteps := 1000000) (disch := first | omega | (simp only [List.length_append, List.length_cons, List.length_nil]; omega) | (intros; simp only [ne_eq, reduceCtorEq, not_false_eq_true] <;> fail)) only [DL.R, Nat.reduceEqDiff, ↓reduceIte, reduceCtorEq, Int.reduceToNat, Int.reduceLE, Int.reduceLT, Nat.reduceLeDiff, Nat.reduceAdd, Nat.reduceMul, Int.reduceBNe, Int.reduceBEq, Int.cast_ofNat_Int, decide_true, decide_false, ne_eq, eq_self, implies_true, dc14_r0, dc14_r1, dc14_r2, dc14_r3, dc14_r4, dc14_r5, dc14_r6, dc14_r7, dc14_r8, dc14_r9, dc14_r10, dc14_r11, dc14_r12, dc14_r13, dc14_r14, dc14_r15, dc14_r16, dc14_r17, dc14_r18, dc14_r19, dc14_r20, dc14, DL.dI, DL.dB, DL.dS, e0]
    have := fin [] (.tup [.lit (.slice none 0 0), dI p]) (by rw [hP]; exact Deep.tup2 (Deep.nil _) (Deep.refl _ _))
    simpa using this
end Go.Proofs.Tryd
set_option maxRecDepth 100000
set_option linter.unusedSimpArgs false
set_option linter.unusedVariables false
namespace Go.Proofs.Tryd
open Go Go.DL
variable {G : Nat → D} {H : List O} {Q : D → List O → Prop}
inductive St where
  | what | inn | name | colon | count | of_ | who | more
  deriving DecidableEq
def stB : St → List UInt8
  | .what => [119, 104, 97, 116]
  | .inn => [105, 110]
  | .name => [110, 97, 109, 101]
  | .colon => [99, 111, 108, 111, 110]
  | .count => [99, 111, 117, 110, 116]
  | .of_ => [111, 102]
  | .who => [119, 104, 111]
  | .more => [109, 111, 114, 101]
theorem stE : (([119, 104, 97, 116] : List UInt8) == [119, 104, 97, 116]) = true ∧
  (([119, 104, 97, 116] : List UInt8) == [105, 110]) = false ∧
  (([119, 104, 97, 116] : List UInt8) == [110, 97, 109, 101]) = false ∧
  (([119, 104, 97, 116] : List UInt8) == [99, 111, 108, 111, 110]) = false ∧
  (([119, 104, 97, 116] : List UInt8) == [99, 111, 117, 110, 116]) = false ∧
  (([119, 104, 97, 116] : List UInt8) == [111, 102]) = false ∧
  (([119, 104, 97, 116] : List UInt8) == [119, 104, 111]) = false ∧
  (([119, 104, 97, 116] : List UInt8) == [109, 111, 114, 101]) = false ∧
  (([105, 110] : List UInt8) == [119, 104, 97, 116]) = false ∧
  (([105, 110] : List UInt8) == [105, 110]) = true ∧
  (([105, 110] : List UInt8) == [110, 97, 109, 101]) = false ∧
  (([105, 110] : List UInt8) == [99, 111, 108, 111, 110]) = false ∧
  (([105, 110] : List UInt8) == [99, 111, 117, 110, 116]) = false ∧
  (([105, 110] : List UInt8) == [111, 102]) = false ∧
  (([105, 110] : List UInt8) == [119, 104, 111]) = false ∧
  (([105, 110] : List UInt8) == [109, 111, 114, 101]) = false ∧
  (([110, 97, 109, 101] : List UInt8) == [119, 104, 97, 116]) = false ∧
  (([110, 97, 109, 101] : List UInt8) == [105, 110]) = false ∧
  (([110, 97, 109, 101] : List UInt8) == [110, 97, 109, 101]) = true ∧
  (([110, 97, 109, 101] : List UInt8) == [99, 111, 108, 111, 110]) = false ∧
  (([110, 97, 109, 101] : List UInt8) == [99, 111, 117, 110, 116]) = false ∧
  (([110, 97, 109, 101] : List UInt8) == [111, 102]) = false ∧
  (([110, 97, 109, 101] : List UInt8) == [119, 104, 111]) = false ∧
  (([110, 97, 109, 101] : List UInt8) == [109, 111, 114, 101]) = false ∧
  (([99, 111, 108, 111, 110] : List UInt8) == [119, 104, 97, 116]) = false ∧
  (([99, 111, 108, 111, 110] : List UInt8) == [105, 110]) = false ∧
  (([99, 111, 108, 111, 110] : List UInt8) == [110, 97, 109, 101]) = false ∧
  (([99, 111, 108, 111, 110] : List UInt8) == [99, 111, 108, 111, 110]) = true ∧
  (([99, 111, 108, 111, 110] : List UInt8) == [99, 111, 117, 110, 116]) = false ∧
  (([99, 111, 108, 111, 110] : List UInt8) == [111, 102]) = false ∧
  (([99, 111, 108, 111, 110] : List UInt8) == [119, 104, 111]) = false ∧
  (([99, 111, 108, 111, 110] : List UInt8) == [109, 111, 114, 101]) = false ∧
  (([99, 111, 117, 110, 116] : List UInt8) == [119, 104, 97, 116]) = false ∧
  (([99, 111, 117, 110, 116] : List UInt8) == [105, 110]) = false ∧
  (([99, 111, 117, 110, 116] : List UInt8) == [110, 97, 109, 101]) = false ∧
  (([99, 111, 117, 110, 116] : List UInt8) == [99, 111, 108, 111, 110]) = false ∧
  (([99, 111, 117, 110, 116] : List UInt8) == [99, 111, 117, 110, 116]) = true ∧
  (([99, 111, 117, 110, 116] : List UInt8) == [111, 102]) = false ∧
  (([99, 111, 117, 110, 116] : List UInt8) == [119, 104, 111]) = false ∧
  (([99, 111, 117, 110, 116] : List UInt8) == [109, 111, 114, 101]) = false ∧
  (([111, 102] : List UInt8) == [119, 104, 97, 116]) = false ∧
  (([111, 102] : List UInt8) == [105, 110]) = false ∧
  (([111, 102] : List UInt8) == [110, 97, 109, 101]) = false ∧
  (([111, 102] : List UInt8) == [99, 111, 108, 111, 110]) = false ∧
  (([111, 102] : List UInt8) == [99, 111, 117, 110, 116]) = false ∧
  (([111, 102] : List UInt8) == [111, 102]) = true ∧
  (([111, 102] : List UInt8) == [119, 104, 111]) = false ∧
  (([111, 102] : List UInt8) == [109, 111, 114, 101]) = false ∧
  (([119, 104, 111] : List UInt8) == [119, 104, 97, 116]) = false ∧
  (([119, 104, 111] : List UInt8) == [105, 110]) = false ∧
  (([119, 104, 111] : List UInt8) == [110, 97, 109, 101]) = false ∧
  (([119, 104, 111] : List UInt8) == [99, 111, 108, 111, 110]) = false ∧
  (([119, 104, 111] : List UInt8) == [99, 111, 117, 110, 116]) = false ∧
  (([119, 104, 111] : List UInt8) == [111, 102]) = false ∧
  (([119, 104, 111] : List UInt8) == [119, 104, 111]) = true ∧
  (([119, 104, 111] : List UInt8) == [109, 111, 114, 101]) = false ∧
  (([109, 111, 114, 101] : List UInt8) == [119, 104, 97, 116]) = false ∧
  (([109, 111, 114, 101] : List UInt8) == [105, 110]) = false ∧
  (([109, 111, 114, 101] : List UInt8) == [110, 97, 109, 101]) = false ∧
  (([109, 111, 114, 101] : List UInt8) == [99, 111, 108, 111, 110]) = false ∧
  (([109, 111, 114, 101] : List UInt8) == [99, 111, 117, 110, 116]) = false ∧
  (([109, 111, 114, 101] : List UInt8) == [111, 102]) = false ∧
  (([109, 111, 114, 101] : List UInt8) == [119, 104, 111]) = false ∧
  (([109, 111, 114, 101] : List UInt8) == [109, 111, 114, 101]) = true :=
  ⟨rfl, rfl, rfl, rfl, rfl, rfl, rfl, rfl, rfl, rfl, rfl, rfl, rfl, rfl, rfl, rfl, rfl, rfl, rfl, rfl, rfl, rfl, rfl, rfl, rfl, rfl, rfl, rfl, rfl, rfl, rfl, rfl, rfl, rfl, rfl, rfl, rfl, rfl, rfl, rfl, rfl, rfl, rfl, rfl, rfl, rfl, rfl, rfl, rfl, rfl, rfl, rfl, rfl, rfl, rfl, rfl, rfl, rfl, rfl, rfl, rfl, rfl, rfl, rfl⟩
theorem stU : stB .what = [119, 104, 97, 116] ∧ stB .inn = [105, 110] ∧ stB .name = [110, 97, 109, 101] ∧ stB .colon = [99, 111, 108, 111, 110] ∧ stB .count = [99, 111, 117, 110, 116] ∧ stB .of_ = [111, 102] ∧ stB .who = [119, 104, 111] ∧ stB .more = [109, 111, 114, 101] := ⟨rfl, rfl, rfl, rfl, rfl, rfl, rfl, rfl⟩
structure PS where
  out : List Rule
  r : Rule
  st : St
def PS.again (p : PS) (t : List UInt8) : Bool := decide (p.st = .more) && (t != [44]) && decide (p.r.n ≤ (p.r.who.length : Int))
def PS.pre (p : PS) (t : List UInt8) : PS := if p.again t then ⟨p.out ++ [p.r], p.r, .what⟩ else p
def refStep (p0 : PS) (t : List UInt8) : PS × Bool :=
  let p := p0.pre t
  match p.st with
  | .what => (⟨p.out, ⟨str t, str [], 0, []⟩, .inn⟩, whatsL.contains t && decide (p.out.length < 64))
  | .inn => (⟨p.out, p.r, if t = [105, 110] then .name else .count⟩, t == [105, 110] || t == [58])
  | .name => (⟨p.out, { p.r with mod := str t }, .colon⟩, isWord kwL t)
  | .colon => (⟨p.out, p.r, .count⟩, t == [58])
  | .count => (⟨p.out, { p.r with n := numberF t }, .of_⟩, decide (1 ≤ numberF t) && decide (numberF t ≤ 8))
  | .of_ => (⟨p.out, p.r, .who⟩, t == [111, 102])
  | .who => (⟨p.out, { p.r with who := p.r.who ++ [numberF t] }, .more⟩, decide (0 ≤ numberF t) && decide (numberF t ≤ 7) && (p.r.who.length == 0 || decide (p.r.who.getD (p.r.who.length - 1) 0 < numberF t)))
  | .more => (⟨p.out, p.r, .who⟩, t == [44])
def refRun : List Tok → PS → Nat → Option PS × Nat
  | [], p, a => (some p, a)
  | t :: l, p, a => if (refStep p t.text).2 then refRun l (refStep p t.text).1 (a + t.before.length + t.text.length) else (none, a + t.before.length)
def refEnd (n : Nat) : Option PS × Nat → List Rule × Int
  | (none, a) => ([], (a : Int))
  | (some p, _) => if p.st = .what then (p.out, -1) else if p.st = .more ∧ p.r.n ≤ (p.r.who.length : Int) then (p.out ++ [p.r], -1) else ([], (n : Int))
def refP (l : List UInt8) : List Rule × Int :=
  if (scan l).2.2 ≠ -1 then ([], (scan l).2.2) else refEnd l.length (refRun (scan l).1 ⟨[], ⟨str [], str [], 0, []⟩, .what⟩ 0)
end Go.Proofs.Tryd
