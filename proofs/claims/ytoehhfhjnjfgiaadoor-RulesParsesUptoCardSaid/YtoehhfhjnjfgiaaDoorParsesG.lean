/- Part of a proof of the statement Parses; what it needs in which order stands in GOCLAIM.json. -/
import Derived.Test.YtoehhfhjnjfgiaaDoorParsesF
set_option maxRecDepth 100000
set_option linter.unusedSimpArgs false
set_option linter.unusedVariables false
namespace Go.Proofs.Tryd
open Go Go.DL
variable {G : Nat → D} {H : List O} {Q : D → List O → Prop}
def signB : List UInt8 := [40, 41, 123, 125, 91, 93, 44, 58, 46, 61, 43, 45, 42, 47, 37, 60]
def isSign : List UInt8 → Bool
  | [b] => signB.contains b
  | l => l == [61, 61] || l == [45, 62]
theorem sign_spec (l : List UInt8) (hl : l.length ≤ 1099511627776) (hQ : Q (dB (isSign l)) H) : CallA Tryd.prog G 46 [dS (str l)] H Q := by
  refine s46 (Nat.le_of_ble_eq_true rfl) ?_
  have fin : ∀ z, isSign l = z → Q (.lit (.bool z)) H := fun z hz => hz ▸ hQ
  by_cases a1 : l = [61, 61]
  · subst a1
    simp -dsimp -implicitDefEqProofs (maxSteps := 1000000) (disch := first | omega | (simp only [List.length_append, List.length_cons, List.length_nil]; omega) | (intros; simp only [ne_eq, reduceCtorEq, not_false_eq_true] <;> fail)) only [DL.R, Nat.reduceEqDiff, ↓reduceIte, reduceCtorEq, Int.reduceToNat, Int.reduceLE, Int.reduceLT, Nat.reduceLeDiff, Nat.reduceAdd, Nat.reduceMul, Int.reduceBNe, Int.reduceBEq, Int.cast_ofNat_Int, decide_true, decide_false, ne_eq, eq_self, implies_true, dc46_r0, dc46_r1, dc46_r2, dc46_r3, dc46_r4, dc46_r5, dc46_r6, dc46_r7, dc46_r9, dc46_r10, dc46_r8, dc46_r11, dc46, DL.dI, DL.dB, DL.dS, BEq.rfl]
    exact fin _ rfl
  have b1 : (l == [61, 61]) = false := by simpa using a1
  by_cases a2 : l = [45, 62]
  · subst a2
    simp -dsimp -implicitDefEqProofs (maxSteps := 1000000) (disch := first | omega | (simp only [List.length_append, List.length_cons, List.length_nil]; omega) | (intros; simp only [ne_eq, reduceCtorEq, not_false_eq_true] <;> fail)) only [DL.R, Nat.reduceEqDiff, ↓reduceIte, reduceCtorEq, Int.reduceToNat, Int.reduceLE, Int.reduceLT, Nat.reduceLeDiff, Nat.reduceAdd, Nat.reduceMul, Int.reduceBNe, Int.reduceBEq, Int.cast_ofNat_Int, decide_true, decide_false, ne_eq, eq_self, implies_true, dc46_r0, dc46_r1, dc46_r2, dc46_r3, dc46_r4, dc46_r5, dc46_r6, dc46_r7, dc46_r9, dc46_r10, dc46_r8, dc46_r11, dc46, DL.dI, DL.dB, DL.dS, b1, BEq.rfl]
    exact fin _ rfl
  have b2 : (l == [45, 62]) = false := by simpa using a2
  by_cases a3 : l.length = 1
  · obtain ⟨b, rfl⟩ := List.length_eq_one_iff.1 a3
    simp -dsimp -implicitDefEqProofs (maxSteps := 1000000) (disch := first | omega | (simp only [List.length_append, List.length_cons, List.length_nil]; omega) | (intros; simp only [ne_eq, reduceCtorEq, not_false_eq_true] <;> fail)) only [DL.R, Nat.reduceEqDiff, ↓reduceIte, reduceCtorEq, Int.reduceToNat, Int.reduceLE, Int.reduceLT, Nat.reduceLeDiff, Nat.reduceAdd, Nat.reduceMul, Int.reduceBNe, Int.reduceBEq, Int.cast_ofNat_Int, decide_true, decide_false, ne_eq, eq_self, implies_true, dc46_r0, dc46_r1, dc46_r2, dc46_r3, dc46_r4, dc46_r5, dc46_r6, dc46_r7, dc46_r9, dc46_r10, dc46_r8, dc46_r11, dc46, DL.dI, DL.dB, DL.dS, b1, b2]
    have h16 : ((16 : Nat) : Int) = 16 := rfl
    refine for_i 4 16 (fun k s' H' => H' = H ∧ s' 0 = dS (str [b]) ∧ s' 3 = dS (str signB) ∧ ∀ j, j < k → ∀ h : j < signB.length, signB[j]'h ≠ b) ?_ ?_ ?_
    · simp -dsimp -implicitDefEqProofs (maxSteps := 1000000) (disch := first | omega | (simp only [List.length_append, List.length_cons, List.length_nil]; omega) | (intros; simp only [ne_eq, reduceCtorEq, not_false_eq_true] <;> fail)) only [DL.R, Nat.reduceEqDiff, ↓reduceIte, reduceCtorEq, Int.reduceToNat, Int.reduceLE, Int.reduceLT, Nat.reduceLeDiff, Nat.reduceAdd, Nat.reduceMul, Int.reduceBNe, Int.reduceBEq, Int.cast_ofNat_Int, decide_true, decide_false, ne_eq, eq_self, implies_true, DL.dI, DL.dB, DL.dS]
    · simp -dsimp -implicitDefEqProofs (maxSteps := 1000000) (disch := first | omega | (simp only [List.length_append, List.length_cons, List.length_nil]; omega) | (intros; simp only [ne_eq, reduceCtorEq, not_false_eq_true] <;> fail)) only [DL.R, Nat.reduceEqDiff, ↓reduceIte, reduceCtorEq, Int.reduceToNat, Int.reduceLE, Int.reduceLT, Nat.reduceLeDiff, Nat.reduceAdd, Nat.reduceMul, Int.reduceBNe, Int.reduceBEq, Int.cast_ofNat_Int, decide_true, decide_false, ne_eq, eq_self, implies_true, DL.dI, DL.dB, DL.dS, signB]
      exact fun j hj => absurd hj (by omega)
    · rintro k s' H' hk ht ⟨rfl, h0, h3, hP⟩
      simp -dsimp -implicitDefEqProofs (maxSteps := 1000000) (disch := first | omega | (simp only [List.length_append, List.length_cons, List.length_nil]; omega) | (intros; simp only [ne_eq, reduceCtorEq, not_false_eq_true] <;> fail)) only [DL.R, Nat.reduceEqDiff, ↓reduceIte, reduceCtorEq, Int.reduceToNat, Int.reduceLE, Int.reduceLT, Nat.reduceLeDiff, Nat.reduceAdd, Nat.reduceMul, Int.reduceBNe, Int.reduceBEq, Int.cast_ofNat_Int, decide_true, decide_false, ne_eq, eq_self, implies_true, dc46_r0, dc46_r1, dc46_r2, dc46_r3, dc46_r4, dc46_r5, dc46_r6, dc46_r7, dc46_r9, dc46_r10, dc46_r8, dc46_r11, dc46, DL.dI, DL.dB, DL.dS, h0, h3, ht]
      have hlen : signB.length = 16 := rfl
      by_cases c : k < 16
      · have c1 : decide ((k : Int) < (signB.length : Int)) = true := by simp [hlen]; omega
        have hk' : k < signB.length := by omega
        simp -dsimp -implicitDefEqProofs (maxSteps := 1000000) (disch := first | omega | (simp only [List.length_append, List.length_cons, List.length_nil]; omega) | (intros; simp only [ne_eq, reduceCtorEq, not_false_eq_true] <;> fail)) only [DL.R, Nat.reduceEqDiff, ↓reduceIte, reduceCtorEq, Int.reduceToNat, Int.reduceLE, Int.reduceLT, Nat.reduceLeDiff, Nat.reduceAdd, Nat.reduceMul, Int.reduceBNe, Int.reduceBEq, Int.cast_ofNat_Int, decide_true, decide_false, ne_eq, eq_self, implies_true, dc46_r0, dc46_r1, dc46_r2, dc46_r3, dc46_r4, dc46_r5, dc46_r6, dc46_r7, dc46_r9, dc46_r10, dc46_r8, dc46_r11, dc46, DL.dI, DL.dB, DL.dS, h0, h3, ht, c1]
        by_cases e : signB[k] = b
        · have e1 : ((signB[k].toNat : Int) == (b.toNat : Int)) = true := by simp [e]
          simp -dsimp -implicitDefEqProofs (maxSteps := 1000000) (disch := first | omega | (simp only [List.length_append, List.length_cons, List.length_nil]; omega) | (intros; simp only [ne_eq, reduceCtorEq, not_false_eq_true] <;> fail)) only [DL.R, Nat.reduceEqDiff, ↓reduceIte, reduceCtorEq, Int.reduceToNat, Int.reduceLE, Int.reduceLT, Nat.reduceLeDiff, Nat.reduceAdd, Nat.reduceMul, Int.reduceBNe, Int.reduceBEq, Int.cast_ofNat_Int, decide_true, decide_false, ne_eq, eq_self, implies_true, dc46_r0, dc46_r1, dc46_r2, dc46_r3, dc46_r4, dc46_r5, dc46_r6, dc46_r7, dc46_r9, dc46_r10, dc46_r8, dc46_r11, dc46, DL.dI, DL.dB, DL.dS, h0, h3, ht, c1, e1]
          refine fin _ ?_
          simp only [isSign]
          rw [List.contains_iff_mem]; exact e ▸ List.getElem_mem hk'
        · have e1 : ((signB[k].toNat : Int) == (b.toNat : Int)) = false := by
            simp only [beq_eq_false_iff_ne, ne_eq, Int.natCast_inj]
            exact fun q => e (UInt8.toNat_inj.1 q)
          simp -dsimp -implicitDefEqProofs (maxSteps := 1000000) (disch := first | omega | (simp only [List.length_append, List.length_cons, List.length_nil]; omega) | (intros; simp only [ne_eq, reduceCtorEq, not_false_eq_true] <;> fail)) only [DL.R, Nat.reduceEqDiff, ↓reduceIte, reduceCtorEq, Int.reduceToNat, Int.reduceLE, Int.reduceLT, Nat.reduceLeDiff, Nat.reduceAdd, Nat.reduceMul, Int.reduceBNe, Int.reduceBEq, Int.cast_ofNat_Int, decide_true, decide_false, ne_eq, eq_self, implies_true, dc46_r0, dc46_r1, dc46_r2, dc46_r3, dc46_r4, dc46_r5, dc46_r6, dc46_r7, dc46_r9, dc46_r10, dc46_r8, dc46_r11, dc46, DL.dI, DL.dB, DL.dS, h0, h3, ht, c1, e1, DL.wrap_id]
          refine ⟨c, fun j hj hjl => ?_⟩
          by_cases hjk : j < k
          · exact hP j hjk hjl
          · have : j = k := by omega
            subst this; exact e
      · have c1 : decide ((k : Int) < (signB.length : Int)) = false := by simp [hlen]; omega
        simp -dsimp -implicitDefEqProofs (maxSteps := 1000000) (disch := first | omega | (simp only [List.length_append, List.length_cons, List.length_nil]; omega) | (intros; simp only [ne_eq, reduceCtorEq, not_false_eq_true] <;> fail)) only [DL.R, Nat.reduceEqDiff, ↓reduceIte, reduceCtorEq, Int.reduceToNat, Int.reduceLE, Int.reduceLT, Nat.reduceLeDiff, Nat.reduceAdd, Nat.reduceMul, Int.reduceBNe, Int.reduceBEq, Int.cast_ofNat_Int, decide_true, decide_false, ne_eq, eq_self, implies_true, dc46_r0, dc46_r1, dc46_r2, dc46_r3, dc46_r4, dc46_r5, dc46_r6, dc46_r7, dc46_r9, dc46_r10, dc46_r8, dc46_r11, dc46, DL.dI, DL.dB, DL.dS, h0, h3, ht, c1]
        refine fin _ ?_
        simp only [isSign]
        rw [← Bool.not_eq_true, List.contains_iff_mem]
        intro hm
        obtain ⟨j, hj, rfl⟩ := List.mem_iff_getElem.1 hm
        exact hP j (by omega) hj rfl
  · have b3 : ((l.length : Int) != 1) = true := by simp; omega
    simp -dsimp -implicitDefEqProofs (maxSteps := 1000000) (disch := first | omega | (simp only [List.length_append, List.length_cons, List.length_nil]; omega) | (intros; simp only [ne_eq, reduceCtorEq, not_false_eq_true] <;> fail)) only [DL.R, Nat.reduceEqDiff, ↓reduceIte, reduceCtorEq, Int.reduceToNat, Int.reduceLE, Int.reduceLT, Nat.reduceLeDiff, Nat.reduceAdd, Nat.reduceMul, Int.reduceBNe, Int.reduceBEq, Int.cast_ofNat_Int, decide_true, decide_false, ne_eq, eq_self, implies_true, dc46_r0, dc46_r1, dc46_r2, dc46_r3, dc46_r4, dc46_r5, dc46_r6, dc46_r7, dc46_r9, dc46_r10, dc46_r8, dc46_r11, dc46, DL.dI, DL.dB, DL.dS, b1, b2, b3]
    refine fin _ ?_
    match l, a3 with
    | [], _ => rfl
    | [b], h => exact absurd rfl h
    | b :: c :: r, _ => simp [isSign] at a1 a2 ⊢; exact ⟨a1, a2⟩
def kwL : List (List UInt8) := [[109, 111, 100, 117, 108, 101], [117, 115, 101], [114, 101, 99], [99, 97, 115, 101], [102, 117, 110], [111, 110], [116, 101, 115, 116], [99, 111, 110, 118], [116, 114, 117, 101], [102, 97, 108, 115, 101], [110, 111, 116], [97, 110, 100], [111, 114], [105, 102], [116, 104, 101, 110], [101, 108, 115, 101], [108, 101, 116], [105, 110], [109, 97, 116, 99, 104], [102, 111, 108, 100], [111, 118, 101, 114], [100, 111], [108, 101, 110], [106, 111, 105, 110], [76, 105, 115, 116], [73, 110, 116], [66, 111, 111, 108]]
def whatsL : List (List UInt8) := [[110, 97, 109, 101], [109, 111, 118, 101], [116, 121, 112, 101], [98, 111, 100, 121], [108, 97, 121, 111, 117, 116], [109, 97, 107, 101], [97, 110, 121]]
theorem keywords_spec (hQ : Q (.sl (strs kwL)) H) : CallA Tryd.prog G 50 [] H Q := by
  refine s50 (Nat.le_of_ble_eq_true rfl) ?_
  simp -dsimp -implicitDefEqProofs (maxSteps := 1000000) (disch := first | omega | (simp only [List.length_append, List.length_cons, List.length_nil]; omega) | (intros; simp only [ne_eq, reduceCtorEq, not_false_eq_true] <;> fail)) only [DL.R, Nat.reduceEqDiff, ↓reduceIte, reduceCtorEq, Int.reduceToNat, Int.reduceLE, Int.reduceLT, Nat.reduceLeDiff, Nat.reduceAdd, Nat.reduceMul, Int.reduceBNe, Int.reduceBEq, Int.cast_ofNat_Int, decide_true, decide_false, ne_eq, eq_self, implies_true, dc50_r0, dc50_r1, dc50, DL.dI, DL.dB, DL.dS]
  exact hQ
theorem whats_spec (hQ : Q (.sl (strs whatsL)) H) : CallA Tryd.prog G 27 [] H Q := by
  refine s27 (Nat.le_of_ble_eq_true rfl) ?_
  simp -dsimp -implicitDefEqProofs (maxSteps := 1000000) (disch := first | omega | (simp only [List.length_append, List.length_cons, List.length_nil]; omega) | (intros; simp only [ne_eq, reduceCtorEq, not_false_eq_true] <;> fail)) only [DL.R, Nat.reduceEqDiff, ↓reduceIte, reduceCtorEq, Int.reduceToNat, Int.reduceLE, Int.reduceLT, Nat.reduceLeDiff, Nat.reduceAdd, Nat.reduceMul, Int.reduceBNe, Int.reduceBEq, Int.cast_ofNat_Int, decide_true, decide_false, ne_eq, eq_self, implies_true, dc27_r0, dc27_r1, dc27, DL.dI, DL.dB, DL.dS]
  exact hQ
def numberF : List UInt8 → Int
  | [b] => if isDigit b then (b.toNat : Int) - 48 else -1
  | _ => -1
theorem rnumber_spec (l : List UInt8) (hl : l.length ≤ 1099511627776) (hQ : Q (dI (numberF l)) H) : CallA Tryd.prog G 33 [dS (str l)] H Q := by
  refine s33 (Nat.le_of_ble_eq_true rfl) ?_
  have fin : ∀ z, numberF l = z → Q (.lit (.int .i64 z)) H := fun z hz => hz ▸ hQ
  by_cases a3 : l.length = 1
  · obtain ⟨b, rfl⟩ := List.length_eq_one_iff.1 a3
    have hb := b.toNat_lt
    have hw : IntKind.i64.wrap (b.toNat : Int) = b.toNat := wrap_id (by omega) (by omega)
    simp -dsimp -implicitDefEqProofs (maxSteps := 1000000) (disch := first | omega | (simp only [List.length_append, List.length_cons, List.length_nil]; omega) | (intros; simp only [ne_eq, reduceCtorEq, not_false_eq_true] <;> fail)) only [DL.R, Nat.reduceEqDiff, ↓reduceIte, reduceCtorEq, Int.reduceToNat, Int.reduceLE, Int.reduceLT, Nat.reduceLeDiff, Nat.reduceAdd, Nat.reduceMul, Int.reduceBNe, Int.reduceBEq, Int.cast_ofNat_Int, decide_true, decide_false, ne_eq, eq_self, implies_true, dc33_r0, dc33_r1, dc33_r2, dc33_r3, dc33, DL.dI, DL.dB, DL.dS, hw]
    by_cases d1 : 48 ≤ b.toNat
    · have e1 : decide ((b.toNat : Int) ≥ 48) = true := by simp; omega
      simp -dsimp -implicitDefEqProofs (maxSteps := 1000000) (disch := first | omega | (simp only [List.length_append, List.length_cons, List.length_nil]; omega) | (intros; simp only [ne_eq, reduceCtorEq, not_false_eq_true] <;> fail)) only [DL.R, Nat.reduceEqDiff, ↓reduceIte, reduceCtorEq, Int.reduceToNat, Int.reduceLE, Int.reduceLT, Nat.reduceLeDiff, Nat.reduceAdd, Nat.reduceMul, Int.reduceBNe, Int.reduceBEq, Int.cast_ofNat_Int, decide_true, decide_false, ne_eq, eq_self, implies_true, dc33_r0, dc33_r1, dc33_r2, dc33_r3, dc33, DL.dI, DL.dB, DL.dS, e1, hw]
      by_cases d2 : b.toNat ≤ 57
      · have e2 : decide ((b.toNat : Int) ≤ 57) = true := by simp; omega
        simp -dsimp -implicitDefEqProofs (maxSteps := 1000000) (disch := first | omega | (simp only [List.length_append, List.length_cons, List.length_nil]; omega) | (intros; simp only [ne_eq, reduceCtorEq, not_false_eq_true] <;> fail)) only [DL.R, Nat.reduceEqDiff, ↓reduceIte, reduceCtorEq, Int.reduceToNat, Int.reduceLE, Int.reduceLT, Nat.reduceLeDiff, Nat.reduceAdd, Nat.reduceMul, Int.reduceBNe, Int.reduceBEq, Int.cast_ofNat_Int, decide_true, decide_false, ne_eq, eq_self, implies_true, dc33_r0, dc33_r1, dc33_r2, dc33_r3, dc33, DL.dI, DL.dB, DL.dS, e1, e2, hw, DL.wrap_id]
        refine fin _ ?_
        simp [numberF, isDigit, d1, d2]
      · have e2 : decide ((b.toNat : Int) ≤ 57) = false := by simp; omega
        simp -dsimp -implicitDefEqProofs (maxSteps := 1000000) (disch := first | omega | (simp only [List.length_append, List.length_cons, List.length_nil]; omega) | (intros; simp only [ne_eq, reduceCtorEq, not_false_eq_true] <;> fail)) only [DL.R, Nat.reduceEqDiff, ↓reduceIte, reduceCtorEq, Int.reduceToNat, Int.reduceLE, Int.reduceLT, Nat.reduceLeDiff, Nat.reduceAdd, Nat.reduceMul, Int.reduceBNe, Int.reduceBEq, Int.cast_ofNat_Int, decide_true, decide_false, ne_eq, eq_self, implies_true, dc33_r0, dc33_r1, dc33_r2, dc33_r3, dc33, DL.dI, DL.dB, DL.dS, e1, e2, hw]
        refine fin _ ?_
        simp [numberF, isDigit, d2]
    · have e1 : decide ((b.toNat : Int) ≥ 48) = false := by simp; omega
      simp -dsimp -implicitDefEqProofs (maxSteps := 1000000) (disch := first | omega | (simp only [List.length_append, List.length_cons, List.length_nil]; omega) | (intros; simp only [ne_eq, reduceCtorEq, not_false_eq_true] <;> fail)) only [DL.R, Nat.reduceEqDiff, ↓reduceIte, reduceCtorEq, Int.reduceToNat, Int.reduceLE, Int.reduceLT, Nat.reduceLeDiff, Nat.reduceAdd, Nat.reduceMul, Int.reduceBNe, Int.reduceBEq, Int.cast_ofNat_Int, decide_true, decide_false, ne_eq, eq_self, implies_true, dc33_r0, dc33_r1, dc33_r2, dc33_r3, dc33, DL.dI, DL.dB, DL.dS, e1, hw]
      refine fin _ ?_
      simp [numberF, isDigit, d1]
  · have b3 : ((l.length : Int) == 1) = false := by simp; omega
    simp -dsimp -implicitDefEqProofs (maxSteps := 1000000) (disch := first | omega | (simp only [List.length_append, List.length_cons, List.length_nil]; omega) | (intros; simp only [ne_eq, reduceCtorEq, not_false_eq_true] <;> fail)) only [DL.R, Nat.reduceEqDiff, ↓reduceIte, reduceCtorEq, Int.reduceToNat, Int.reduceLE, Int.reduceLT, Nat.reduceLeDiff, Nat.reduceAdd, Nat.reduceMul, Int.reduceBNe, Int.reduceBEq, Int.cast_ofNat_Int, decide_true, decide_false, ne_eq, eq_self, implies_true, dc33_r0, dc33_r1, dc33_r2, dc33_r3, dc33, DL.dI, DL.dB, DL.dS, b3]
    refine fin _ ?_
    match l, a3 with
    | [], _ => rfl
    | [b], h => exact absurd rfl h
    | b :: c :: r, _ => rfl
theorem has_spec (l : List (List UInt8)) (t : List UInt8) (hl : l.length ≤ 1099511627776) (hQ : Q (dB (l.contains t)) H) : CallA Tryd.prog G 31 [.sl (strs l), dS (str t)] H Q := by
  refine s31 (Nat.le_of_ble_eq_true rfl) ?_
  simp -dsimp -implicitDefEqProofs (maxSteps := 1000000) (disch := first | omega | (simp only [List.length_append, List.length_cons, List.length_nil]; omega) | (intros; simp only [ne_eq, reduceCtorEq, not_false_eq_true] <;> fail)) only [DL.R, Nat.reduceEqDiff, ↓reduceIte, reduceCtorEq, Int.reduceToNat, Int.reduceLE, Int.reduceLT, Nat.reduceLeDiff, Nat.reduceAdd, Nat.reduceMul, Int.reduceBNe, Int.reduceBEq, Int.cast_ofNat_Int, decide_true, decide_false, ne_eq, eq_self, implies_true, dc31_r0, dc31_r1, dc31_r2, dc31_r4, dc31_r5, dc31_r3, dc31_r6, dc31, DL.dI, DL.dB, DL.dS]
  refine for_i 5 l.length (fun k s' H' => H' = H ∧ s' 0 = .sl (strs l) ∧ s' 1 = dS (str t) ∧ ∀ j, j < k → ∀ h : j < l.length, l[j]'h ≠ t) ?_ ?_ ?_
  · simp -dsimp -implicitDefEqProofs (maxSteps := 1000000) (disch := first | omega | (simp only [List.length_append, List.length_cons, List.length_nil]; omega) | (intros; simp only [ne_eq, reduceCtorEq, not_false_eq_true] <;> fail)) only [DL.R, Nat.reduceEqDiff, ↓reduceIte, reduceCtorEq, Int.reduceToNat, Int.reduceLE, Int.reduceLT, Nat.reduceLeDiff, Nat.reduceAdd, Nat.reduceMul, Int.reduceBNe, Int.reduceBEq, Int.cast_ofNat_Int, decide_true, decide_false, ne_eq, eq_self, implies_true, DL.dI, DL.dB, DL.dS]
  · simp -dsimp -implicitDefEqProofs (maxSteps := 1000000) (disch := first | omega | (simp only [List.length_append, List.length_cons, List.length_nil]; omega) | (intros; simp only [ne_eq, reduceCtorEq, not_false_eq_true] <;> fail)) only [DL.R, Nat.reduceEqDiff, ↓reduceIte, reduceCtorEq, Int.reduceToNat, Int.reduceLE, Int.reduceLT, Nat.reduceLeDiff, Nat.reduceAdd, Nat.reduceMul, Int.reduceBNe, Int.reduceBEq, Int.cast_ofNat_Int, decide_true, decide_false, ne_eq, eq_self, implies_true, DL.dI, DL.dB, DL.dS]
    exact fun j hj => absurd hj (by omega)
  · rintro k s' H' hk ht ⟨rfl, h0, h1, hP⟩
    unfold strs at h0
    by_cases c : k < l.length
    · have c1 : decide ((k : Int) < (l.length : Int)) = true := by simp; omega
      simp -dsimp -implicitDefEqProofs (maxSteps := 1000000) (disch := first | omega | (simp only [List.length_append, List.length_cons, List.length_nil]; omega) | (intros; simp only [ne_eq, reduceCtorEq, not_false_eq_true] <;> fail)) only [DL.R, Nat.reduceEqDiff, ↓reduceIte, reduceCtorEq, Int.reduceToNat, Int.reduceLE, Int.reduceLT, Nat.reduceLeDiff, Nat.reduceAdd, Nat.reduceMul, Int.reduceBNe, Int.reduceBEq, Int.cast_ofNat_Int, decide_true, decide_false, ne_eq, eq_self, implies_true, dc31_r0, dc31_r1, dc31_r2, dc31_r4, dc31_r5, dc31_r3, dc31_r6, dc31, DL.dI, DL.dB, DL.dS, h0, h1, ht, c1]
      by_cases e : l[k] = t
      · have e1 : (l[k] == t) = true := by simp [e]
        simp -dsimp -implicitDefEqProofs (maxSteps := 1000000) (disch := first | omega | (simp only [List.length_append, List.length_cons, List.length_nil]; omega) | (intros; simp only [ne_eq, reduceCtorEq, not_false_eq_true] <;> fail)) only [DL.R, Nat.reduceEqDiff, ↓reduceIte, reduceCtorEq, Int.reduceToNat, Int.reduceLE, Int.reduceLT, Nat.reduceLeDiff, Nat.reduceAdd, Nat.reduceMul, Int.reduceBNe, Int.reduceBEq, Int.cast_ofNat_Int, decide_true, decide_false, ne_eq, eq_self, implies_true, dc31_r0, dc31_r1, dc31_r2, dc31_r4, dc31_r5, dc31_r3, dc31_r6, dc31, DL.dI, DL.dB, DL.dS, h0, h1, ht, c1, e1]
        refine toD hQ ?_
        have : t ∈ l := e ▸ List.getElem_mem c
        simp [this]
      · have e1 : (l[k] == t) = false := by simp [e]
        simp -dsimp -implicitDefEqProofs (maxSteps := 1000000) (disch := first | omega | (simp only [List.length_append, List.length_cons, List.length_nil]; omega) | (intros; simp only [ne_eq, reduceCtorEq, not_false_eq_true] <;> fail)) only [DL.R, Nat.reduceEqDiff, ↓reduceIte, reduceCtorEq, Int.reduceToNat, Int.reduceLE, Int.reduceLT, Nat.reduceLeDiff, Nat.reduceAdd, Nat.reduceMul, Int.reduceBNe, Int.reduceBEq, Int.cast_ofNat_Int, decide_true, decide_false, ne_eq, eq_self, implies_true, dc31_r0, dc31_r1, dc31_r2, dc31_r4, dc31_r5, dc31_r3, dc31_r6, dc31, DL.dI, DL.dB, DL.dS, h0, h1, ht, c1, e1, DL.wrap_id]
        refine ⟨c, rfl, fun j hj hjl => ?_⟩
        by_cases hjk : j < k
        · exact hP j hjk hjl
        · have : j = k := by omega
          subst this; exact e
    · have c1 : decide ((k : Int) < (l.length : Int)) = false := by simp; omega
      simp -dsimp -implicitDefEqProofs (maxSteps := 1000000) (disch := first | omega | (simp only [List.length_append, List.length_cons, List.length_nil]; omega) | (intros; simp only [ne_eq, reduceCtorEq, not_false_eq_true] <;> fail)) only [DL.R, Nat.reduceEqDiff, ↓reduceIte, reduceCtorEq, Int.reduceToNat, Int.reduceLE, Int.reduceLT, Nat.reduceLeDiff, Nat.reduceAdd, Nat.reduceMul, Int.reduceBNe, Int.reduceBEq, Int.cast_ofNat_Int, decide_true, decide_false, ne_eq, eq_self, implies_true, dc31_r0, dc31_r1, dc31_r2, dc31_r4, dc31_r5, dc31_r3, dc31_r6, dc31, DL.dI, DL.dB, DL.dS, h0, h1, ht, c1]
      refine toD hQ ?_
      congr 2
      rw [← Bool.not_eq_true, List.contains_iff_mem]
      intro hm
      obtain ⟨j, hj, rfl⟩ := List.mem_iff_getElem.1 hm
      exact hP j (by omega) hj rfl
end Go.Proofs.Tryd
set_option maxRecDepth 100000
set_option linter.unusedSimpArgs false
set_option linter.unusedVariables false
namespace Go.Proofs.Tryd
open Go Go.DL
variable {G : Nat → D} {H : List O} {Q : D → List O → Prop}
theorem skip_spec (l : List UInt8) (at_ : Nat) (ha : at_ ≤ l.length) (hl : l.length ≤ 1099511627776) (hQ : Q (dI ((at_ + bl false (l.drop at_) : Nat) : Int)) H) : CallA Tryd.prog G 28 [dS (str l), dI at_] H Q := by
  refine s28 (Nat.le_of_ble_eq_true rfl) ?_
  simp -dsimp -implicitDefEqProofs (maxSteps := 1000000) (disch := first | omega | (simp only [List.length_append, List.length_cons, List.length_nil]; omega) | (intros; simp only [ne_eq, reduceCtorEq, not_false_eq_true] <;> fail)) only [DL.R, Nat.reduceEqDiff, ↓reduceIte, reduceCtorEq, Int.reduceToNat, Int.reduceLE, Int.reduceLT, Nat.reduceLeDiff, Nat.reduceAdd, Nat.reduceMul, Int.reduceBNe, Int.reduceBEq, Int.cast_ofNat_Int, decide_true, decide_false, ne_eq, eq_self, implies_true, dc28_r0, dc28_r1, dc28_r2, dc28_r3, dc28_r4, dc28_r5, dc28_r6, dc28_r7, dc28_r8, dc28_r9, dc28_r10, dc28_r11, dc28, DL.dI, DL.dB, DL.dS]
  refine loop_i (fun s' H' => H' = H ∧ s' 0 = dS (str l) ∧ ∃ (p : Nat) (c : Bool), p ≤ l.length ∧ s' 1 = dI p ∧ s' 5 = dB c ∧ at_ + bl false (l.drop at_) = p + bl c (l.drop p)) (fun s' _ => l.length - (s' 1).toN) ?_ ?_
  · exact ⟨rfl, rfl, at_, false, ha, rfl, rfl, rfl⟩
  · rintro s' H' ⟨rfl, h0, p, c, hp, h1, h5, hE⟩
    by_cases c1 : p < l.length
    · have e1 : decide ((p : Int) < (l.length : Int)) = true := by simp; omega
      have hd : l.drop p = l[p] :: l.drop (p + 1) := List.drop_eq_getElem_cons c1
      obtain ⟨b, hb⟩ : ∃ b, l[p] = b := ⟨_, rfl⟩
      rw [hd, hb] at hE
      have next : ∀ c', bl c (b :: l.drop (p + 1)) = 1 + bl c' (l.drop (p + 1)) → at_ + bl false (l.drop at_) = (p + 1 : Nat) + bl c' (l.drop (p + 1)) := fun c' h => by omega
      by_cases d1 : b = 10
      · have f1 : ((b.toNat : Int) == 10) = true := by subst d1; rfl
        simp -dsimp -implicitDefEqProofs (maxSteps := 1000000) (disch := first | omega | (simp only [List.length_append, List.length_cons, List.length_nil]; omega) | (intros; simp only [ne_eq, reduceCtorEq, not_false_eq_true] <;> fail)) only [DL.R, Nat.reduceEqDiff, ↓reduceIte, reduceCtorEq, Int.reduceToNat, Int.reduceLE, Int.reduceLT, Nat.reduceLeDiff, Nat.reduceAdd, Nat.reduceMul, Int.reduceBNe, Int.reduceBEq, Int.cast_ofNat_Int, decide_true, decide_false, ne_eq, eq_self, implies_true, dc28_r0, dc28_r1, dc28_r2, dc28_r3, dc28_r4, dc28_r5, dc28_r6, dc28_r7, dc28_r8, dc28_r9, dc28_r10, dc28_r11, dc28, DL.dI, DL.dB, DL.dS, h0, h1, h5, e1, hb, f1, DL.wrap_id, DL.D.toN]
        exact ⟨⟨p + 1, false, by omega, rfl, rfl, next false (by simp [bl, d1])⟩, by omega⟩
      · have f1 : ((b.toNat : Int) == 10) = false := by
          simp only [beq_eq_false_iff_ne, ne_eq]; intro q; exact d1 (UInt8.toNat_inj.1 (by simpa using (by omega : b.toNat = 10)))
        by_cases d2 : b = 35
        · have f2 : ((b.toNat : Int) == 35) = true := by subst d2; rfl
          simp -dsimp -implicitDefEqProofs (maxSteps := 1000000) (disch := first | omega | (simp only [List.length_append, List.length_cons, List.length_nil]; omega) | (intros; simp only [ne_eq, reduceCtorEq, not_false_eq_true] <;> fail)) only [DL.R, Nat.reduceEqDiff, ↓reduceIte, reduceCtorEq, Int.reduceToNat, Int.reduceLE, Int.reduceLT, Nat.reduceLeDiff, Nat.reduceAdd, Nat.reduceMul, Int.reduceBNe, Int.reduceBEq, Int.cast_ofNat_Int, decide_true, decide_false, ne_eq, eq_self, implies_true, dc28_r0, dc28_r1, dc28_r2, dc28_r3, dc28_r4, dc28_r5, dc28_r6, dc28_r7, dc28_r8, dc28_r9, dc28_r10, dc28_r11, dc28, DL.dI, DL.dB, DL.dS, h0, h1, h5, e1, hb, f1, f2, DL.wrap_id, DL.D.toN]
          exact ⟨⟨p + 1, true, by omega, rfl, rfl, next true (by cases c <;> simp [bl, d2])⟩, by omega⟩
        · have f2 : ((b.toNat : Int) == 35) = false := by
            simp only [beq_eq_false_iff_ne, ne_eq]; intro q; exact d2 (UInt8.toNat_inj.1 (by simpa using (by omega : b.toNat = 35)))
          by_cases d3 : b = 32
          · have f3 : ((b.toNat : Int) != 32) = false := by subst d3; rfl
            simp -dsimp -implicitDefEqProofs (maxSteps := 1000000) (disch := first | omega | (simp only [List.length_append, List.length_cons, List.length_nil]; omega) | (intros; simp only [ne_eq, reduceCtorEq, not_false_eq_true] <;> fail)) only [DL.R, Nat.reduceEqDiff, ↓reduceIte, reduceCtorEq, Int.reduceToNat, Int.reduceLE, Int.reduceLT, Nat.reduceLeDiff, Nat.reduceAdd, Nat.reduceMul, Int.reduceBNe, Int.reduceBEq, Int.cast_ofNat_Int, decide_true, decide_false, ne_eq, eq_self, implies_true, dc28_r0, dc28_r1, dc28_r2, dc28_r3, dc28_r4, dc28_r5, dc28_r6, dc28_r7, dc28_r8, dc28_r9, dc28_r10, dc28_r11, dc28, DL.dI, DL.dB, DL.dS, h0, h1, h5, e1, hb, f1, f2, f3, DL.wrap_id, DL.D.toN]
            exact ⟨⟨p + 1, c, by omega, rfl, rfl, next c (by cases c <;> simp [bl, d3])⟩, by omega⟩
          · have f3 : ((b.toNat : Int) != 32) = true := by
              simp only [bne_iff_ne, ne_eq]; intro q; exact d3 (UInt8.toNat_inj.1 (by simpa using (by omega : b.toNat = 32)))
            cases c with
            | true =>
              simp -dsimp -implicitDefEqProofs (maxSteps := 1000000) (disch := first | omega | (simp only [List.length_append, List.length_cons, List.length_nil]; omega) | (intros; simp only [ne_eq, reduceCtorEq, not_false_eq_true] <;> fail)) only [DL.R, Nat.reduceEqDiff, ↓reduceIte, reduceCtorEq, Int.reduceToNat, Int.reduceLE, Int.reduceLT, Nat.reduceLeDiff, Nat.reduceAdd, Nat.reduceMul, Int.reduceBNe, Int.reduceBEq, Int.cast_ofNat_Int, decide_true, decide_false, ne_eq, eq_self, implies_true, dc28_r0, dc28_r1, dc28_r2, dc28_r3, dc28_r4, dc28_r5, dc28_r6, dc28_r7, dc28_r8, dc28_r9, dc28_r10, dc28_r11, dc28, DL.dI, DL.dB, DL.dS, h0, h1, h5, e1, hb, f1, f2, f3, DL.wrap_id, DL.D.toN]
              exact ⟨⟨p + 1, true, by omega, rfl, rfl, next true (by simp [bl, d1])⟩, by omega⟩
            | false =>
              simp -dsimp -implicitDefEqProofs (maxSteps := 1000000) (disch := first | omega | (simp only [List.length_append, List.length_cons, List.length_nil]; omega) | (intros; simp only [ne_eq, reduceCtorEq, not_false_eq_true] <;> fail)) only [DL.R, Nat.reduceEqDiff, ↓reduceIte, reduceCtorEq, Int.reduceToNat, Int.reduceLE, Int.reduceLT, Nat.reduceLeDiff, Nat.reduceAdd, Nat.reduceMul, Int.reduceBNe, Int.reduceBEq, Int.cast_ofNat_Int, decide_true, decide_false, ne_eq, eq_self, implies_true, dc28_r0, dc28_r1, dc28_r2, dc28_r3, dc28_r4, dc28_r5, dc28_r6, dc28_r7, dc28_r8, dc28_r9, dc28_r10, dc28_r11, dc28, DL.dI, DL.dB, DL.dS, h0, h1, h5, e1, hb, f1, f2, f3, DL.wrap_id, DL.D.toN]
              refine toD hQ ?_
              rw [hE]; simp [bl, d1, d2, d3]
    · have e1 : decide ((p : Int) < (l.length : Int)) = false := by simp; omega
      simp -dsimp -implicitDefEqProofs (maxSteps := 1000000) (disch := first | omega | (simp only [List.length_append, List.length_cons, List.length_nil]; omega) | (intros; simp only [ne_eq, reduceCtorEq, not_false_eq_true] <;> fail)) only [DL.R, Nat.reduceEqDiff, ↓reduceIte, reduceCtorEq, Int.reduceToNat, Int.reduceLE, Int.reduceLT, Nat.reduceLeDiff, Nat.reduceAdd, Nat.reduceMul, Int.reduceBNe, Int.reduceBEq, Int.cast_ofNat_Int, decide_true, decide_false, ne_eq, eq_self, implies_true, dc28_r0, dc28_r1, dc28_r2, dc28_r3, dc28_r4, dc28_r5, dc28_r6, dc28_r7, dc28_r8, dc28_r9, dc28_r10, dc28_r11, dc28, DL.dI, DL.dB, DL.dS, h0, h1, h5, e1]
      refine toD hQ ?_
      rw [hE, List.drop_of_length_le (by omega)]; cases c <;> simp [bl]
theorem tok_sign (b : UInt8) (r : List UInt8) (h1 : isLetter b = false) (h2 : isDigit b = false) : tok (b :: r) = if isSign ((b :: r).take 2) && decide (2 ≤ (b :: r).length) then 2 else if isSign [b] then 1 else 0 := by
  have h0 : tok (b :: r) = ((signsL.find? fun x => Lib.hasPrefix (b :: r) x).map List.length).getD 0 := by simp [tok, h1, h2]
  rw [h0]
  cases r with
  | nil =>
    by_cases hs : isSign [b] = true
    · simp only [isSign, List.contains_iff_mem, signB, List.mem_cons, List.not_mem_nil, or_false] at hs
      rcases hs with rfl | rfl | rfl | rfl | rfl | rfl | rfl | rfl | rfl | rfl | rfl | rfl | rfl | rfl | rfl | rfl <;> rfl
    · have : signsL.find? (fun x => Lib.hasPrefix [b] x) = none := by
        rw [List.find?_eq_none]
        intro x hx
        simp only [isSign, List.contains_iff_mem, signB, List.mem_cons, List.not_mem_nil, or_false] at hs
        simp only [signsL, List.mem_cons, List.not_mem_nil, or_false] at hx
        rcases hx with rfl | rfl | rfl | rfl | rfl | rfl | rfl | rfl | rfl | rfl | rfl | rfl | rfl | rfl | rfl | rfl | rfl | rfl <;> simp [Lib.hasPrefix] <;> intro q <;> simp [← q] at hs
      rw [this]; simp [hs]
  | cons c r =>
    by_cases hs2 : isSign [b, c] = true
    · simp only [isSign, Bool.or_eq_true, beq_iff_eq] at hs2
      rcases hs2 with h | h <;> (simp only [List.cons.injEq, and_true] at h; obtain ⟨rfl, rfl⟩ := h; simp [signsL, List.find?, Lib.hasPrefix, isSign])
    · have hs2' := hs2
      simp only [isSign, Bool.or_eq_true, beq_iff_eq, List.cons.injEq, and_true, not_or] at hs2'
      by_cases hs : isSign [b] = true
      · simp only [isSign, List.contains_iff_mem, signB, List.mem_cons, List.not_mem_nil, or_false] at hs
        rcases hs with rfl | rfl | rfl | rfl | rfl | rfl | rfl | rfl | rfl | rfl | rfl | rfl | rfl | rfl | rfl | rfl <;> simp_all [signsL, List.find?, Lib.hasPrefix, isSign, signB] <;> (repeat' split) <;> simp_all
      · have : signsL.find? (fun x => Lib.hasPrefix (b :: c :: r) x) = none := by
          rw [List.find?_eq_none]
          intro x hx
          simp only [isSign, List.contains_iff_mem, signB, List.mem_cons, List.not_mem_nil, or_false] at hs
          simp only [signsL, List.mem_cons, List.not_mem_nil, or_false] at hx
          rcases hx with rfl | rfl | rfl | rfl | rfl | rfl | rfl | rfl | rfl | rfl | rfl | rfl | rfl | rfl | rfl | rfl | rfl | rfl <;> simp [Lib.hasPrefix] <;> (first | (intro q; simp [← q] at hs; done) | (intro q1 q2; simp_all))
        rw [this]; simp [hs, hs2]
end Go.Proofs.Tryd
set_option maxRecDepth 100000
set_option linter.unusedSimpArgs false
set_option linter.unusedVariables false
namespace Go.Proofs.Tryd
open Go Go.DL
variable {G : Nat → D} {H : List O} {Q : D → List O → Prop}
def kindOk (k : Int) (u : UInt8) : Bool := if k = 1 then isEither u else isDigit u
theorem kindOk_eq (k : Int) (u : UInt8) : kindOk k u = ((kindN u == 2) || ((kindN u == 1) && (k == 1))) := by
  unfold kindOk kindN isEither
  by_cases hk : k = 1 <;> by_cases h1 : isLetter u = true <;> by_cases h2 : isDigit u = true <;> simp_all
  simp only [isLetter, isDigit, Bool.or_eq_true, Bool.and_eq_true, decide_eq_true_eq] at h1 h2; omega
theorem kindN_letter {u : UInt8} (h : isLetter u = true) : kindN u = 1 := by simp [kindN, h]
theorem kindN_digit {u : UInt8} (h1 : isLetter u = false) (h : isDigit u = true) : kindN u = 2 := by simp [kindN, h1, h]
theorem kindN_no {u : UInt8} (h1 : isLetter u = false) (h : isDigit u = false) : kindN u = 0 := by simp [kindN, h1, h]
def endF (l : List UInt8) (p : Nat) : Int := if tok (l.drop p) = 0 then -1 else ((p + tok (l.drop p) : Nat) : Int)
theorem end_spec (l : List UInt8) (p : Nat) (hp : p < l.length) (hl : l.length ≤ 1099511627776) (hQ : Q (dI (endF l p)) H) : CallA Tryd.prog G 29 [dS (str l), dI p] H Q := by
  refine s29 (Nat.le_of_ble_eq_true rfl) ?_
  have fin : ∀ z, endF l p = z → Q (.lit (.int .i64 z)) H := fun z hz => hz ▸ hQ
  have hd : l.drop p = l[p] :: l.drop (p + 1) := List.drop_eq_getElem_cons hp
  obtain ⟨b, hb⟩ : ∃ b, l[p] = b := ⟨_, rfl⟩
  rw [hb] at hd
  simp -dsimp -implicitDefEqProofs (maxSteps := 1000000) (disch := first | omega | (simp only [List.length_append, List.length_cons, List.length_nil]; omega) | (intros; simp only [ne_eq, reduceCtorEq, not_false_eq_true] <;> fail)) only [DL.R, Nat.reduceEqDiff, ↓reduceIte, reduceCtorEq, Int.reduceToNat, Int.reduceLE, Int.reduceLT, Nat.reduceLeDiff, Nat.reduceAdd, Nat.reduceMul, Int.reduceBNe, Int.reduceBEq, Int.cast_ofNat_Int, decide_true, decide_false, ne_eq, eq_self, implies_true, dc29_r0, dc29_r1, dc29_r2, dc29_r3, dc29_r4, dc29_r5, dc29_r6, dc29_r7, dc29_r8, dc29_r9, dc29_r10, dc29_r11, dc29_r12, dc29_r13, dc29, DL.dI, DL.dB, DL.dS, hb]
  refine kind_spec b ?_
  simp -dsimp -implicitDefEqProofs (maxSteps := 1000000) (disch := first | omega | (simp only [List.length_append, List.length_cons, List.length_nil]; omega) | (intros; simp only [ne_eq, reduceCtorEq, not_false_eq_true] <;> fail)) only [DL.R, Nat.reduceEqDiff, ↓reduceIte, reduceCtorEq, Int.reduceToNat, Int.reduceLE, Int.reduceLT, Nat.reduceLeDiff, Nat.reduceAdd, Nat.reduceMul, Int.reduceBNe, Int.reduceBEq, Int.cast_ofNat_Int, decide_true, decide_false, ne_eq, eq_self, implies_true, dc29_r0, dc29_r1, dc29_r2, dc29_r3, dc29_r4, dc29_r5, dc29_r6, dc29_r7, dc29_r8, dc29_r9, dc29_r10, dc29_r11, dc29_r12, dc29_r13, dc29, DL.dI, DL.dB, DL.dS]
  by_cases hk : kindN b = 0
  · have h1 : isLetter b = false := by by_cases q : isLetter b = true; (rw [kindN_letter q] at hk; omega); simpa using q
    have h2 : isDigit b = false := by by_cases q : isDigit b = true; (rw [kindN_digit h1 q] at hk; omega); simpa using q
    have e1 : decide (kindN b > 0) = false := by simp; omega
    have hts := tok_sign b (l.drop (p + 1)) h1 h2
    rw [← hd] at hts
    have hlen : (l.drop p).length = l.length - p := by simp
    simp -dsimp -implicitDefEqProofs (maxSteps := 1000000) (disch := first | omega | (simp only [List.length_append, List.length_cons, List.length_nil]; omega) | (intros; simp only [ne_eq, reduceCtorEq, not_false_eq_true] <;> fail)) only [DL.R, Nat.reduceEqDiff, ↓reduceIte, reduceCtorEq, Int.reduceToNat, Int.reduceLE, Int.reduceLT, Nat.reduceLeDiff, Nat.reduceAdd, Nat.reduceMul, Int.reduceBNe, Int.reduceBEq, Int.cast_ofNat_Int, decide_true, decide_false, ne_eq, eq_self, implies_true, dc29_r0, dc29_r1, dc29_r2, dc29_r3, dc29_r4, dc29_r5, dc29_r6, dc29_r7, dc29_r8, dc29_r9, dc29_r10, dc29_r11, dc29_r12, dc29_r13, dc29, DL.dI, DL.dB, DL.dS, e1, DL.wrap_id]
    have hy : (l.drop p).take 1 = [b] := by rw [hd]; rfl
    by_cases c2 : p + 1 < l.length
    · have e2 : decide ((p : Int) + 1 < (l.length : Int)) = true := by simp; omega
      simp -dsimp -implicitDefEqProofs (maxSteps := 1000000) (disch := first | omega | (simp only [List.length_append, List.length_cons, List.length_nil]; omega) | (intros; simp only [ne_eq, reduceCtorEq, not_false_eq_true] <;> fail)) only [DL.R, Nat.reduceEqDiff, ↓reduceIte, reduceCtorEq, Int.reduceToNat, Int.reduceLE, Int.reduceLT, Nat.reduceLeDiff, Nat.reduceAdd, Nat.reduceMul, Int.reduceBNe, Int.reduceBEq, Int.cast_ofNat_Int, decide_true, decide_false, ne_eq, eq_self, implies_true, dc29_r0, dc29_r1, dc29_r2, dc29_r3, dc29_r4, dc29_r5, dc29_r6, dc29_r7, dc29_r8, dc29_r9, dc29_r10, dc29_r11, dc29_r12, dc29_r13, dc29, DL.dI, DL.dB, DL.dS, e2, DL.wrap_id]
      refine ⟨by omega, by omega, by omega, ?_⟩
      have n1 : ((p : Int) + 2).toNat - p = 2 := by omega
      rw [n1]
      refine sign_spec _ (by simp; omega) ?_
      by_cases c3 : isSign ((l.drop p).take 2) = true
      · simp -dsimp -implicitDefEqProofs (maxSteps := 1000000) (disch := first | omega | (simp only [List.length_append, List.length_cons, List.length_nil]; omega) | (intros; simp only [ne_eq, reduceCtorEq, not_false_eq_true] <;> fail)) only [DL.R, Nat.reduceEqDiff, ↓reduceIte, reduceCtorEq, Int.reduceToNat, Int.reduceLE, Int.reduceLT, Nat.reduceLeDiff, Nat.reduceAdd, Nat.reduceMul, Int.reduceBNe, Int.reduceBEq, Int.cast_ofNat_Int, decide_true, decide_false, ne_eq, eq_self, implies_true, dc29_r0, dc29_r1, dc29_r2, dc29_r3, dc29_r4, dc29_r5, dc29_r6, dc29_r7, dc29_r8, dc29_r9, dc29_r10, dc29_r11, dc29_r12, dc29_r13, dc29, DL.dI, DL.dB, DL.dS, c3, DL.wrap_id]
        refine fin _ ?_
        have : tok (l.drop p) = 2 := by rw [hts, c3]; simp [hlen]; omega
        simp [endF, this]
      · have c3' : isSign ((l.drop p).take 2) = false := by simpa using c3
        simp -dsimp -implicitDefEqProofs (maxSteps := 1000000) (disch := first | omega | (simp only [List.length_append, List.length_cons, List.length_nil]; omega) | (intros; simp only [ne_eq, reduceCtorEq, not_false_eq_true] <;> fail)) only [DL.R, Nat.reduceEqDiff, ↓reduceIte, reduceCtorEq, Int.reduceToNat, Int.reduceLE, Int.reduceLT, Nat.reduceLeDiff, Nat.reduceAdd, Nat.reduceMul, Int.reduceBNe, Int.reduceBEq, Int.cast_ofNat_Int, decide_true, decide_false, ne_eq, eq_self, implies_true, dc29_r0, dc29_r1, dc29_r2, dc29_r3, dc29_r4, dc29_r5, dc29_r6, dc29_r7, dc29_r8, dc29_r9, dc29_r10, dc29_r11, dc29_r12, dc29_r13, dc29, DL.dI, DL.dB, DL.dS, c3', DL.wrap_id]
        refine ⟨by omega, by omega, by omega, ?_⟩
        have n1 : ((p : Int) + 1).toNat - p = 1 := by omega
        rw [n1, hy]
        refine sign_spec _ (by simp) ?_
        by_cases c4 : isSign [b] = true
        · simp -dsimp -implicitDefEqProofs (maxSteps := 1000000) (disch := first | omega | (simp only [List.length_append, List.length_cons, List.length_nil]; omega) | (intros; simp only [ne_eq, reduceCtorEq, not_false_eq_true] <;> fail)) only [DL.R, Nat.reduceEqDiff, ↓reduceIte, reduceCtorEq, Int.reduceToNat, Int.reduceLE, Int.reduceLT, Nat.reduceLeDiff, Nat.reduceAdd, Nat.reduceMul, Int.reduceBNe, Int.reduceBEq, Int.cast_ofNat_Int, decide_true, decide_false, ne_eq, eq_self, implies_true, dc29_r0, dc29_r1, dc29_r2, dc29_r3, dc29_r4, dc29_r5, dc29_r6, dc29_r7, dc29_r8, dc29_r9, dc29_r10, dc29_r11, dc29_r12, dc29_r13, dc29, DL.dI, DL.dB, DL.dS, c4, DL.wrap_id]
          refine fin _ ?_
          have : tok (l.drop p) = 1 := by rw [hts, c3', c4]; simp
          simp [endF, this]
        · have c4' : isSign [b] = false := by simpa using c4
          simp -dsimp -implicitDefEqProofs (maxSteps := 1000000) (disch := first | omega | (simp only [List.length_append, List.length_cons, List.length_nil]; omega) | (intros; simp only [ne_eq, reduceCtorEq, not_false_eq_true] <;> fail)) only [DL.R, Nat.reduceEqDiff, ↓reduceIte, reduceCtorEq, Int.reduceToNat, Int.reduceLE, Int.reduceLT, Nat.reduceLeDiff, Nat.reduceAdd, Nat.reduceMul, Int.reduceBNe, Int.reduceBEq, Int.cast_ofNat_Int, decide_true, decide_false, ne_eq, eq_self, implies_true, dc29_r0, dc29_r1, dc29_r2, dc29_r3, dc29_r4, dc29_r5, dc29_r6, dc29_r7, dc29_r8, dc29_r9, dc29_r10, dc29_r11, dc29_r12, dc29_r13, dc29, DL.dI, DL.dB, DL.dS, c4', DL.wrap_id]
          refine fin _ ?_
          have : tok (l.drop p) = 0 := by rw [hts, c3', c4']; simp
          simp [endF, this]
    · have e2 : decide ((p : Int) + 1 < (l.length : Int)) = false := by simp; omega
      simp -dsimp -implicitDefEqProofs (maxSteps := 1000000) (disch := first | omega | (simp only [List.length_append, List.length_cons, List.length_nil]; omega) | (intros; simp only [ne_eq, reduceCtorEq, not_false_eq_true] <;> fail)) only [DL.R, Nat.reduceEqDiff, ↓reduceIte, reduceCtorEq, Int.reduceToNat, Int.reduceLE, Int.reduceLT, Nat.reduceLeDiff, Nat.reduceAdd, Nat.reduceMul, Int.reduceBNe, Int.reduceBEq, Int.cast_ofNat_Int, decide_true, decide_false, ne_eq, eq_self, implies_true, dc29_r0, dc29_r1, dc29_r2, dc29_r3, dc29_r4, dc29_r5, dc29_r6, dc29_r7, dc29_r8, dc29_r9, dc29_r10, dc29_r11, dc29_r12, dc29_r13, dc29, DL.dI, DL.dB, DL.dS, e2, DL.wrap_id]
      refine ⟨by omega, by omega, by omega, ?_⟩
      have n1 : ((p : Int) + 1).toNat - p = 1 := by omega
      rw [n1, hy]
      refine sign_spec _ (by simp) ?_
      by_cases c4 : isSign [b] = true
      · simp -dsimp -implicitDefEqProofs (maxSteps := 1000000) (disch := first | omega | (simp only [List.length_append, List.length_cons, List.length_nil]; omega) | (intros; simp only [ne_eq, reduceCtorEq, not_false_eq_true] <;> fail)) only [DL.R, Nat.reduceEqDiff, ↓reduceIte, reduceCtorEq, Int.reduceToNat, Int.reduceLE, Int.reduceLT, Nat.reduceLeDiff, Nat.reduceAdd, Nat.reduceMul, Int.reduceBNe, Int.reduceBEq, Int.cast_ofNat_Int, decide_true, decide_false, ne_eq, eq_self, implies_true, dc29_r0, dc29_r1, dc29_r2, dc29_r3, dc29_r4, dc29_r5, dc29_r6, dc29_r7, dc29_r8, dc29_r9, dc29_r10, dc29_r11, dc29_r12, dc29_r13, dc29, DL.dI, DL.dB, DL.dS, c4, DL.wrap_id]
        refine fin _ ?_
        have : tok (l.drop p) = 1 := by rw [hts, c4]; simp [hlen]; omega
        simp [endF, this]
      · have c4' : isSign [b] = false := by simpa using c4
        simp -dsimp -implicitDefEqProofs (maxSteps := 1000000) (disch := first | omega | (simp only [List.length_append, List.length_cons, List.length_nil]; omega) | (intros; simp only [ne_eq, reduceCtorEq, not_false_eq_true] <;> fail)) only [DL.R, Nat.reduceEqDiff, ↓reduceIte, reduceCtorEq, Int.reduceToNat, Int.reduceLE, Int.reduceLT, Nat.reduceLeDiff, Nat.reduceAdd, Nat.reduceMul, Int.reduceBNe, Int.reduceBEq, Int.cast_ofNat_Int, decide_true, decide_false, ne_eq, eq_self, implies_true, dc29_r0, dc29_r1, dc29_r2, dc29_r3, dc29_r4, dc29_r5, dc29_r6, dc29_r7, dc29_r8, dc29_r9, dc29_r10, dc29_r11, dc29_r12, dc29_r13, dc29, DL.dI, DL.dB, DL.dS, c4', DL.wrap_id]
        refine fin _ ?_
        have : tok (l.drop p) = 0 := by rw [hts, c4']; simp [hlen]; omega
        simp [endF, this]
  · obtain ⟨k, hkk⟩ : ∃ k, kindN b = k := ⟨_, rfl⟩
    have hk12 : k = 1 ∨ k = 2 := by
      unfold kindN at hkk hk
      split at hkk
      · left; omega
      · split at hkk
        · right; omega
        · rename_i q1 q2; simp [q1, q2] at hk
    have htok : tok (l.drop p) = short (1 + ((l.drop (p + 1)).takeWhile (kindOk k)).length) := by
      rw [hd]
      by_cases h1 : isLetter b = true
      · have : k = 1 := by rw [← hkk, kindN_letter h1]
        subst this
        have : kindOk 1 = isEither := by funext u; simp [kindOk]
        simp [tok, h1, this]
      · have h1' : isLetter b = false := by simpa using h1
        by_cases h2 : isDigit b = true
        · have : k = 2 := by rw [← hkk, kindN_digit h1' h2]
          subst this
          have : kindOk 2 = isDigit := by funext u; simp [kindOk]
          simp [tok, h1', h2, this]
        · exact absurd (kindN_no h1' (by simpa using h2)) hk
    have e1 : decide (k > 0) = true := by simp; omega
    simp -dsimp -implicitDefEqProofs (maxSteps := 1000000) (disch := first | omega | (simp only [List.length_append, List.length_cons, List.length_nil]; omega) | (intros; simp only [ne_eq, reduceCtorEq, not_false_eq_true] <;> fail)) only [DL.R, Nat.reduceEqDiff, ↓reduceIte, reduceCtorEq, Int.reduceToNat, Int.reduceLE, Int.reduceLT, Nat.reduceLeDiff, Nat.reduceAdd, Nat.reduceMul, Int.reduceBNe, Int.reduceBEq, Int.cast_ofNat_Int, decide_true, decide_false, ne_eq, eq_self, implies_true, dc29_r0, dc29_r1, dc29_r2, dc29_r3, dc29_r4, dc29_r5, dc29_r6, dc29_r7, dc29_r8, dc29_r9, dc29_r10, dc29_r11, dc29_r12, dc29_r13, dc29, DL.dI, DL.dB, DL.dS, hkk, e1, DL.wrap_id]
    refine loop_i (fun s' H' => H' = H ∧ s' 0 = dS (str l) ∧ s' 1 = dI p ∧ s' 5 = dI k ∧ ∃ j : Nat, p + 1 + j ≤ l.length ∧ s' 6 = dI ((p + 1 + j : Nat) : Int) ∧ ((l.drop (p + 1)).takeWhile (kindOk k)).length = j + ((l.drop (p + 1 + j)).takeWhile (kindOk k)).length) (fun s' _ => l.length - (s' 6).toN) ?_ ?_
    · simp -dsimp -implicitDefEqProofs (maxSteps := 1000000) (disch := first | omega | (simp only [List.length_append, List.length_cons, List.length_nil]; omega) | (intros; simp only [ne_eq, reduceCtorEq, not_false_eq_true] <;> fail)) only [DL.R, Nat.reduceEqDiff, ↓reduceIte, reduceCtorEq, Int.reduceToNat, Int.reduceLE, Int.reduceLT, Nat.reduceLeDiff, Nat.reduceAdd, Nat.reduceMul, Int.reduceBNe, Int.reduceBEq, Int.cast_ofNat_Int, decide_true, decide_false, ne_eq, eq_self, implies_true, DL.dI, DL.dB, DL.dS]
      exact ⟨0, by omega, by simp, by simp⟩
    · rintro s' H' ⟨rfl, h0, h1, h5, j, hj, h6, hw⟩
      have stop : ((l.drop (p + 1 + j)).takeWhile (kindOk k)).length = 0 → tok (l.drop p) = short (1 + j) := fun q => by rw [htok, hw, q]; rfl
      by_cases c1 : p + 1 + j < l.length
      · have e2 : decide (((p + 1 + j : Nat) : Int) < (l.length : Int)) = true := by simp; omega
        obtain ⟨c, hc⟩ : ∃ c, l[p + 1 + j] = c := ⟨_, rfl⟩
        have hdj : l.drop (p + 1 + j) = c :: l.drop (p + 1 + j + 1) := by rw [List.drop_eq_getElem_cons c1, hc]
        simp -dsimp -implicitDefEqProofs (maxSteps := 1000000) (disch := first | omega | (simp only [List.length_append, List.length_cons, List.length_nil]; omega) | (intros; simp only [ne_eq, reduceCtorEq, not_false_eq_true] <;> fail)) only [DL.R, Nat.reduceEqDiff, ↓reduceIte, reduceCtorEq, Int.reduceToNat, Int.reduceLE, Int.reduceLT, Nat.reduceLeDiff, Nat.reduceAdd, Nat.reduceMul, Int.reduceBNe, Int.reduceBEq, Int.cast_ofNat_Int, decide_true, decide_false, ne_eq, eq_self, implies_true, dc29_r0, dc29_r1, dc29_r2, dc29_r3, dc29_r4, dc29_r5, dc29_r6, dc29_r7, dc29_r8, dc29_r9, dc29_r10, dc29_r11, dc29_r12, dc29_r13, dc29, DL.dI, DL.dB, DL.dS, h0, h1, h5, h6, e2, hc, DL.wrap_id]
        refine kind_spec c ?_
        by_cases f1 : kindN c = 2
        · have ok : kindOk k c = true := by rw [kindOk_eq, f1]; rfl
          have f1' : (kindN c == 2) = true := by simp [f1]
          simp -dsimp -implicitDefEqProofs (maxSteps := 1000000) (disch := first | omega | (simp only [List.length_append, List.length_cons, List.length_nil]; omega) | (intros; simp only [ne_eq, reduceCtorEq, not_false_eq_true] <;> fail)) only [DL.R, Nat.reduceEqDiff, ↓reduceIte, reduceCtorEq, Int.reduceToNat, Int.reduceLE, Int.reduceLT, Nat.reduceLeDiff, Nat.reduceAdd, Nat.reduceMul, Int.reduceBNe, Int.reduceBEq, Int.cast_ofNat_Int, decide_true, decide_false, ne_eq, eq_self, implies_true, dc29_r0, dc29_r1, dc29_r2, dc29_r3, dc29_r4, dc29_r5, dc29_r6, dc29_r7, dc29_r8, dc29_r9, dc29_r10, dc29_r11, dc29_r12, dc29_r13, dc29, DL.dI, DL.dB, DL.dS, h0, h1, h5, h6, e2, f1', DL.wrap_id, DL.D.toN]
          refine ⟨⟨j + 1, by omega, by simp; omega, ?_⟩, by omega⟩
          rw [show p + 1 + (j + 1) = p + 1 + j + 1 from rfl, hw, hdj, List.takeWhile_cons, if_pos ok]; simp; omega
        · have f1' : (kindN c == 2) = false := by simp [f1]
          simp -dsimp -implicitDefEqProofs (maxSteps := 1000000) (disch := first | omega | (simp only [List.length_append, List.length_cons, List.length_nil]; omega) | (intros; simp only [ne_eq, reduceCtorEq, not_false_eq_true] <;> fail)) only [DL.R, Nat.reduceEqDiff, ↓reduceIte, reduceCtorEq, Int.reduceToNat, Int.reduceLE, Int.reduceLT, Nat.reduceLeDiff, Nat.reduceAdd, Nat.reduceMul, Int.reduceBNe, Int.reduceBEq, Int.cast_ofNat_Int, decide_true, decide_false, ne_eq, eq_self, implies_true, dc29_r0, dc29_r1, dc29_r2, dc29_r3, dc29_r4, dc29_r5, dc29_r6, dc29_r7, dc29_r8, dc29_r9, dc29_r10, dc29_r11, dc29_r12, dc29_r13, dc29, DL.dI, DL.dB, DL.dS, h0, h1, h5, h6, e2, hc, f1', DL.wrap_id]
          refine kind_spec c ?_
          by_cases f2 : kindN c = 1 ∧ k = 1
          · have ok : kindOk k c = true := by rw [kindOk_eq, f2.1, f2.2]; rfl
            have f2' : (kindN c == 1) = true := by simp [f2]
            have f3' : (k == 1) = true := by simp [f2]
            simp -dsimp -implicitDefEqProofs (maxSteps := 1000000) (disch := first | omega | (simp only [List.length_append, List.length_cons, List.length_nil]; omega) | (intros; simp only [ne_eq, reduceCtorEq, not_false_eq_true] <;> fail)) only [DL.R, Nat.reduceEqDiff, ↓reduceIte, reduceCtorEq, Int.reduceToNat, Int.reduceLE, Int.reduceLT, Nat.reduceLeDiff, Nat.reduceAdd, Nat.reduceMul, Int.reduceBNe, Int.reduceBEq, Int.cast_ofNat_Int, decide_true, decide_false, ne_eq, eq_self, implies_true, dc29_r0, dc29_r1, dc29_r2, dc29_r3, dc29_r4, dc29_r5, dc29_r6, dc29_r7, dc29_r8, dc29_r9, dc29_r10, dc29_r11, dc29_r12, dc29_r13, dc29, DL.dI, DL.dB, DL.dS, h0, h1, h5, h6, e2, f1', f2', f3', DL.wrap_id, DL.D.toN]
            refine ⟨⟨j + 1, by omega, by simp; omega, ?_⟩, by omega⟩
            rw [show p + 1 + (j + 1) = p + 1 + j + 1 from rfl, hw, hdj, List.takeWhile_cons, if_pos ok]; simp; omega
          · have no : kindOk k c = false := by
              rw [kindOk_eq, f1', Bool.false_or, ← Bool.not_eq_true, Bool.and_eq_true]
              simpa using f2
            have hstop := stop (by rw [hdj, List.takeWhile_cons, no]; rfl)
            by_cases f3 : kindN c = 1
            · have f2' : (kindN c == 1) = true := by simp [f3]
              have f3' : (k == 1) = false := by simp; intro q; exact f2 ⟨f3, q⟩
              simp -dsimp -implicitDefEqProofs (maxSteps := 1000000) (disch := first | omega | (simp only [List.length_append, List.length_cons, List.length_nil]; omega) | (intros; simp only [ne_eq, reduceCtorEq, not_false_eq_true] <;> fail)) only [DL.R, Nat.reduceEqDiff, ↓reduceIte, reduceCtorEq, Int.reduceToNat, Int.reduceLE, Int.reduceLT, Nat.reduceLeDiff, Nat.reduceAdd, Nat.reduceMul, Int.reduceBNe, Int.reduceBEq, Int.cast_ofNat_Int, decide_true, decide_false, ne_eq, eq_self, implies_true, dc29_r0, dc29_r1, dc29_r2, dc29_r3, dc29_r4, dc29_r5, dc29_r6, dc29_r7, dc29_r8, dc29_r9, dc29_r10, dc29_r11, dc29_r12, dc29_r13, dc29, DL.dI, DL.dB, DL.dS, h0, h1, h5, h6, e2, f1', f2', f3', DL.wrap_id]
              by_cases c5 : 1 + j > 16
              · have e5 : decide (((p + 1 + j : Nat) : Int) - (p : Int) > 16) = true := by simp; omega
                simp -dsimp -implicitDefEqProofs (maxSteps := 1000000) (disch := first | omega | (simp only [List.length_append, List.length_cons, List.length_nil]; omega) | (intros; simp only [ne_eq, reduceCtorEq, not_false_eq_true] <;> fail)) only [DL.R, Nat.reduceEqDiff, ↓reduceIte, reduceCtorEq, Int.reduceToNat, Int.reduceLE, Int.reduceLT, Nat.reduceLeDiff, Nat.reduceAdd, Nat.reduceMul, Int.reduceBNe, Int.reduceBEq, Int.cast_ofNat_Int, decide_true, decide_false, ne_eq, eq_self, implies_true, dc29_r0, dc29_r1, dc29_r2, dc29_r3, dc29_r4, dc29_r5, dc29_r6, dc29_r7, dc29_r8, dc29_r9, dc29_r10, dc29_r11, dc29_r12, dc29_r13, dc29, DL.dI, DL.dB, DL.dS, h0, h1, h5, h6, e5, DL.wrap_id]
                refine fin _ ?_
                simp [endF, hstop, short, c5]
              · have e5 : decide (((p + 1 + j : Nat) : Int) - (p : Int) > 16) = false := by simp; omega
                simp -dsimp -implicitDefEqProofs (maxSteps := 1000000) (disch := first | omega | (simp only [List.length_append, List.length_cons, List.length_nil]; omega) | (intros; simp only [ne_eq, reduceCtorEq, not_false_eq_true] <;> fail)) only [DL.R, Nat.reduceEqDiff, ↓reduceIte, reduceCtorEq, Int.reduceToNat, Int.reduceLE, Int.reduceLT, Nat.reduceLeDiff, Nat.reduceAdd, Nat.reduceMul, Int.reduceBNe, Int.reduceBEq, Int.cast_ofNat_Int, decide_true, decide_false, ne_eq, eq_self, implies_true, dc29_r0, dc29_r1, dc29_r2, dc29_r3, dc29_r4, dc29_r5, dc29_r6, dc29_r7, dc29_r8, dc29_r9, dc29_r10, dc29_r11, dc29_r12, dc29_r13, dc29, DL.dI, DL.dB, DL.dS, h0, h1, h5, h6, e5, DL.wrap_id]
                refine fin _ ?_
                simp [endF, hstop, short, c5]; omega
            · have f2' : (kindN c == 1) = false := by simp [f3]
              simp -dsimp -implicitDefEqProofs (maxSteps := 1000000) (disch := first | omega | (simp only [List.length_append, List.length_cons, List.length_nil]; omega) | (intros; simp only [ne_eq, reduceCtorEq, not_false_eq_true] <;> fail)) only [DL.R, Nat.reduceEqDiff, ↓reduceIte, reduceCtorEq, Int.reduceToNat, Int.reduceLE, Int.reduceLT, Nat.reduceLeDiff, Nat.reduceAdd, Nat.reduceMul, Int.reduceBNe, Int.reduceBEq, Int.cast_ofNat_Int, decide_true, decide_false, ne_eq, eq_self, implies_true, dc29_r0, dc29_r1, dc29_r2, dc29_r3, dc29_r4, dc29_r5, dc29_r6, dc29_r7, dc29_r8, dc29_r9, dc29_r10, dc29_r11, dc29_r12, dc29_r13, dc29, DL.dI, DL.dB, DL.dS, h0, h1, h5, h6, e2, f1', f2', DL.wrap_id]
              by_cases c5 : 1 + j > 16
              · have e5 : decide (((p + 1 + j : Nat) : Int) - (p : Int) > 16) = true := by simp; omega
                simp -dsimp -implicitDefEqProofs (maxSteps := 1000000) (disch := first | omega | (simp only [List.length_append, List.length_cons, List.length_nil]; omega) | (intros; simp only [ne_eq, reduceCtorEq, not_false_eq_true] <;> fail)) only [DL.R, Nat.reduceEqDiff, ↓reduceIte, reduceCtorEq, Int.reduceToNat, Int.reduceLE, Int.reduceLT, Nat.reduceLeDiff, Nat.reduceAdd, Nat.reduceMul, Int.reduceBNe, Int.reduceBEq, Int.cast_ofNat_Int, decide_true, decide_false, ne_eq, eq_self, implies_true, dc29_r0, dc29_r1, dc29_r2, dc29_r3, dc29_r4, dc29_r5, dc29_r6, dc29_r7, dc29_r8, dc29_r9, dc29_r10, dc29_r11, dc29_r12, dc29_r13, dc29, DL.dI, DL.dB, DL.dS, h0, h1, h5, h6, e5, DL.wrap_id]
                refine fin _ ?_
                simp [endF, hstop, short, c5]
              · have e5 : decide (((p + 1 + j : Nat) : Int) - (p : Int) > 16) = false := by simp; omega
                simp -dsimp -implicitDefEqProofs (maxSteps := 1000000) (disch := first | omega | (simp only [List.length_append, List.length_cons, List.length_nil]; omega) | (intros; simp only [ne_eq, reduceCtorEq, not_false_eq_true] <;> fail)) only [DL.R, Nat.reduceEqDiff, ↓reduceIte, reduceCtorEq, Int.reduceToNat, Int.reduceLE, Int.reduceLT, Nat.reduceLeDiff, Nat.reduceAdd, Nat.reduceMul, Int.reduceBNe, Int.reduceBEq, Int.cast_ofNat_Int, decide_true, decide_false, ne_eq, eq_self, implies_true, dc29_r0, dc29_r1, dc29_r2, dc29_r3, dc29_r4, dc29_r5, dc29_r6, dc29_r7, dc29_r8, dc29_r9, dc29_r10, dc29_r11, dc29_r12, dc29_r13, dc29, DL.dI, DL.dB, DL.dS, h0, h1, h5, h6, e5, DL.wrap_id]
                refine fin _ ?_
                simp [endF, hstop, short, c5]; omega
      · have e2 : decide (((p + 1 + j : Nat) : Int) < (l.length : Int)) = false := by simp; omega
        have hstop := stop (by rw [List.drop_of_length_le (by omega)]; rfl)
        simp -dsimp -implicitDefEqProofs (maxSteps := 1000000) (disch := first | omega | (simp only [List.length_append, List.length_cons, List.length_nil]; omega) | (intros; simp only [ne_eq, reduceCtorEq, not_false_eq_true] <;> fail)) only [DL.R, Nat.reduceEqDiff, ↓reduceIte, reduceCtorEq, Int.reduceToNat, Int.reduceLE, Int.reduceLT, Nat.reduceLeDiff, Nat.reduceAdd, Nat.reduceMul, Int.reduceBNe, Int.reduceBEq, Int.cast_ofNat_Int, decide_true, decide_false, ne_eq, eq_self, implies_true, dc29_r0, dc29_r1, dc29_r2, dc29_r3, dc29_r4, dc29_r5, dc29_r6, dc29_r7, dc29_r8, dc29_r9, dc29_r10, dc29_r11, dc29_r12, dc29_r13, dc29, DL.dI, DL.dB, DL.dS, h0, h1, h5, h6, e2, DL.wrap_id]
        by_cases c5 : 1 + j > 16
        · have e5 : decide (((p + 1 + j : Nat) : Int) - (p : Int) > 16) = true := by simp; omega
          simp -dsimp -implicitDefEqProofs (maxSteps := 1000000) (disch := first | omega | (simp only [List.length_append, List.length_cons, List.length_nil]; omega) | (intros; simp only [ne_eq, reduceCtorEq, not_false_eq_true] <;> fail)) only [DL.R, Nat.reduceEqDiff, ↓reduceIte, reduceCtorEq, Int.reduceToNat, Int.reduceLE, Int.reduceLT, Nat.reduceLeDiff, Nat.reduceAdd, Nat.reduceMul, Int.reduceBNe, Int.reduceBEq, Int.cast_ofNat_Int, decide_true, decide_false, ne_eq, eq_self, implies_true, dc29_r0, dc29_r1, dc29_r2, dc29_r3, dc29_r4, dc29_r5, dc29_r6, dc29_r7, dc29_r8, dc29_r9, dc29_r10, dc29_r11, dc29_r12, dc29_r13, dc29, DL.dI, DL.dB, DL.dS, h0, h1, h5, h6, e5, DL.wrap_id]
          refine fin _ ?_
          simp [endF, hstop, short, c5]
        · have e5 : decide (((p + 1 + j : Nat) : Int) - (p : Int) > 16) = false := by simp; omega
          simp -dsimp -implicitDefEqProofs (maxSteps := 1000000) (disch := first | omega | (simp only [List.length_append, List.length_cons, List.length_nil]; omega) | (intros; simp only [ne_eq, reduceCtorEq, not_false_eq_true] <;> fail)) only [DL.R, Nat.reduceEqDiff, ↓reduceIte, reduceCtorEq, Int.reduceToNat, Int.reduceLE, Int.reduceLT, Nat.reduceLeDiff, Nat.reduceAdd, Nat.reduceMul, Int.reduceBNe, Int.reduceBEq, Int.cast_ofNat_Int, decide_true, decide_false, ne_eq, eq_self, implies_true, dc29_r0, dc29_r1, dc29_r2, dc29_r3, dc29_r4, dc29_r5, dc29_r6, dc29_r7, dc29_r8, dc29_r9, dc29_r10, dc29_r11, dc29_r12, dc29_r13, dc29, DL.dI, DL.dB, DL.dS, h0, h1, h5, h6, e5, DL.wrap_id]
          refine fin _ ?_
          simp [endF, hstop, short, c5]; omega
end Go.Proofs.Tryd
set_option linter.unusedVariables false
set_option linter.unusedSimpArgs false
namespace Go.DL
open Go
theorem below_lit (n : Nat) (v : Value) : Below n (.lit v) ↔ True := ⟨fun _ => trivial, fun _ => .lit v⟩
theorem below_agg (n : Nat) (xs : List D) : Below n (.agg xs) ↔ ∀ x ∈ xs, Below n x := by
  constructor
  · intro h x hx
    cases h with
    | agg _ h => obtain ⟨i, hi, rfl⟩ := List.getElem_of_mem hx; exact h i hi
  · intro h; exact .agg xs fun i hi => h _ (List.getElem_mem hi)
theorem below_tup (n : Nat) (xs : List D) : Below n (.tup xs) ↔ ∀ x ∈ xs, Below n x := by
  constructor
  · intro h x hx
    cases h with
    | tup _ h => obtain ⟨i, hi, rfl⟩ := List.getElem_of_mem hx; exact h i hi
  · intro h; exact .tup xs fun i hi => h _ (List.getElem_mem hi)
theorem below_sl (n : Nat) (xs : List D) : Below n (.sl xs) ↔ ∀ x ∈ xs, ∀ y ∈ x.leaves, Below n y := by
  constructor
  · intro h x hx y hy
    cases h with
    | sl _ h => obtain ⟨i, hi, rfl⟩ := List.getElem_of_mem hx; obtain ⟨j, hj, rfl⟩ := List.getElem_of_mem hy; exact h i hi j hj
  · intro h; exact .sl xs fun i hi j hj => h _ (List.getElem_mem hi) _ (List.getElem_mem hj)
theorem Deep.nil (H : List O) : Deep H (.lit (.slice none 0 0)) (.sl []) := by
  intro F c w v hr hv
  cases hv
  exact .sl [] none ⟨0, 0, none⟩ 0 1 (fun _ _ => undef) (Nat.le_refl _) (fun hp => by simp at hp) (fun j hj => by simp at hj) (fun j hj => by simp at hj) (fun j hj => by simp at hj) (fun j hj => by simp at hj)
theorem Deep.tup2 {H : List O} {a b a' b' : D} (h1 : Deep H a a') (h2 : Deep H b b') : Deep H (.tup [a, b]) (.tup [a', b']) :=
  Deep.tup rfl fun i q => by
    match i, q with
    | 0, _ => exact h1
    | 1, _ => exact h2
theorem Deep.tup3 {H : List O} {a b c a' b' c' : D} (h1 : Deep H a a') (h2 : Deep H b b') (h3 : Deep H c c') : Deep H (.tup [a, b, c]) (.tup [a', b', c']) :=
  Deep.tup rfl fun i q => by
    match i, q with
    | 0, _ => exact h1
    | 1, _ => exact h2
    | 2, _ => exact h3
theorem frz_own (H Gs : List O) (id : Nat) {x : Bool} {ver : Nat} {e : TypeId} {s : Nat} {xs : List D} (h : Gs[id]? = some (.row x ver e s xs)) : (H ++ frzAll Gs)[H.length + id]? = some (.row false ver e s xs) := by
  rw [get_own]; simp [frzAll, h]
theorem Deep.own {H Gs : List O} {id ver : Nat} {x : Bool} {e : TypeId} {s : Nat} {xs : List D} (h : Gs[id]? = some (.row x ver e s xs)) : Deep (H ++ frzAll Gs) (.row (H.length + id) ver) (.sl xs) := Deep.row (frz_own H Gs id h)
theorem Deep.own0 {H Gs : List O} {ver : Nat} {x : Bool} {e : TypeId} {s : Nat} {xs : List D} (h : Gs[0]? = some (.row x ver e s xs)) : Deep (H ++ frzAll Gs) (.row H.length ver) (.sl xs) := Deep.own (id := 0) h
end Go.DL
set_option maxRecDepth 100000
set_option linter.unusedSimpArgs false
set_option linter.unusedVariables false
namespace Go.Proofs.Tryd
open Go Go.DL
variable {G : Nat → D} {H : List O} {Q : D → List O → Prop}
theorem word05_spec (s : List UInt8) (hs : s.length ≤ 1099511627776) (hQ : Q (dB (isWord kwL s)) H) : CallA Tryd.prog G 32 [dS (str s)] H Q := by
  refine s32 (Nat.le_of_ble_eq_true rfl) ?_
  cases s with
  | nil =>
    simp -dsimp -implicitDefEqProofs (maxSteps := 1000000) (disch := first | omega | (simp only [List.length_append, List.length_cons, List.length_nil]; omega) | (intros; simp only [ne_eq, reduceCtorEq, not_false_eq_true] <;> fail)) only [DL.R, Nat.reduceEqDiff, ↓reduceIte, reduceCtorEq, Int.reduceToNat, Int.reduceLE, Int.reduceLT, Nat.reduceLeDiff, Nat.reduceAdd, Nat.reduceMul, Int.reduceBNe, Int.reduceBEq, Int.cast_ofNat_Int, decide_true, decide_false, ne_eq, eq_self, implies_true, dc32_r0, dc32_r1, dc32_r2, dc32_r3, dc32_r4, dc32_r5, dc32_r7, dc32_r8, dc32_r6, dc32_r9, dc32, DL.dI, DL.dB, DL.dS]
    exact hQ
  | cons b r =>
    have e0 : (((r.length + 1 : Nat) : Int) == 0) = false := by simp; omega
    simp -dsimp -implicitDefEqProofs (maxSteps := 1000000) (disch := first | omega | (simp only [List.length_append, List.length_cons, List.length_nil]; omega) | (intros; simp only [ne_eq, reduceCtorEq, not_false_eq_true] <;> fail)) only [DL.R, Nat.reduceEqDiff, ↓reduceIte, reduceCtorEq, Int.reduceToNat, Int.reduceLE, Int.reduceLT, Nat.reduceLeDiff, Nat.reduceAdd, Nat.reduceMul, Int.reduceBNe, Int.reduceBEq, Int.cast_ofNat_Int, decide_true, decide_false, ne_eq, eq_self, implies_true, dc32_r0, dc32_r1, dc32_r2, dc32_r3, dc32_r4, dc32_r5, dc32_r7, dc32_r8, dc32_r6, dc32_r9, dc32, DL.dI, DL.dB, DL.dS, e0, DL.byte_zero]
    refine kind_spec b ?_
    by_cases h1 : isLetter b = true
    · have e1 : (kindN b != 1) = false := by rw [kindN_letter h1]; rfl
      simp -dsimp -implicitDefEqProofs (maxSteps := 1000000) (disch := first | omega | (simp only [List.length_append, List.length_cons, List.length_nil]; omega) | (intros; simp only [ne_eq, reduceCtorEq, not_false_eq_true] <;> fail)) only [DL.R, Nat.reduceEqDiff, ↓reduceIte, reduceCtorEq, Int.reduceToNat, Int.reduceLE, Int.reduceLT, Nat.reduceLeDiff, Nat.reduceAdd, Nat.reduceMul, Int.reduceBNe, Int.reduceBEq, Int.cast_ofNat_Int, decide_true, decide_false, ne_eq, eq_self, implies_true, dc32_r0, dc32_r1, dc32_r2, dc32_r3, dc32_r4, dc32_r5, dc32_r7, dc32_r8, dc32_r6, dc32_r9, dc32, DL.dI, DL.dB, DL.dS, e1]
      refine keywords_spec ?_
      simp -dsimp -implicitDefEqProofs (maxSteps := 1000000) (disch := first | omega | (simp only [List.length_append, List.length_cons, List.length_nil]; omega) | (intros; simp only [ne_eq, reduceCtorEq, not_false_eq_true] <;> fail)) only [DL.R, Nat.reduceEqDiff, ↓reduceIte, reduceCtorEq, Int.reduceToNat, Int.reduceLE, Int.reduceLT, Nat.reduceLeDiff, Nat.reduceAdd, Nat.reduceMul, Int.reduceBNe, Int.reduceBEq, Int.cast_ofNat_Int, decide_true, decide_false, ne_eq, eq_self, implies_true, dc32_r0, dc32_r1, dc32_r2, dc32_r3, dc32_r4, dc32_r5, dc32_r7, dc32_r8, dc32_r6, dc32_r9, dc32, DL.dI, DL.dB, DL.dS]
      have h27 : kwL.length = 27 := rfl
      refine for_i 4 27 (fun k s' H' => H' = H ∧ s' 0 = dS (str (b :: r)) ∧ s' 3 = .sl (strs kwL) ∧ ∀ j, j < k → ∀ h : j < kwL.length, kwL[j]'h ≠ b :: r) ?_ ?_ ?_
      · simp -dsimp -implicitDefEqProofs (maxSteps := 1000000) (disch := first | omega | (simp only [List.length_append, List.length_cons, List.length_nil]; omega) | (intros; simp only [ne_eq, reduceCtorEq, not_false_eq_true] <;> fail)) only [DL.R, Nat.reduceEqDiff, ↓reduceIte, reduceCtorEq, Int.reduceToNat, Int.reduceLE, Int.reduceLT, Nat.reduceLeDiff, Nat.reduceAdd, Nat.reduceMul, Int.reduceBNe, Int.reduceBEq, Int.cast_ofNat_Int, decide_true, decide_false, ne_eq, eq_self, implies_true, DL.dI, DL.dB, DL.dS]
      · simp -dsimp -implicitDefEqProofs (maxSteps := 1000000) (disch := first | omega | (simp only [List.length_append, List.length_cons, List.length_nil]; omega) | (intros; simp only [ne_eq, reduceCtorEq, not_false_eq_true] <;> fail)) only [DL.R, Nat.reduceEqDiff, ↓reduceIte, reduceCtorEq, Int.reduceToNat, Int.reduceLE, Int.reduceLT, Nat.reduceLeDiff, Nat.reduceAdd, Nat.reduceMul, Int.reduceBNe, Int.reduceBEq, Int.cast_ofNat_Int, decide_true, decide_false, ne_eq, eq_self, implies_true, DL.dI, DL.dB, DL.dS]
        exact fun j hj => absurd hj (by omega)
      · rintro k s' H' hk ht ⟨rfl, h0, h3, hP⟩
        unfold strs at h3
        by_cases c : k < 27
        · have c' : k < kwL.length := by omega
          have c1 : decide ((k : Int) < 27) = true := by simp; omega
          simp -dsimp -implicitDefEqProofs (maxSteps := 1000000) (disch := first | omega | (simp only [List.length_append, List.length_cons, List.length_nil]; omega) | (intros; simp only [ne_eq, reduceCtorEq, not_false_eq_true] <;> fail)) only [DL.R, Nat.reduceEqDiff, ↓reduceIte, reduceCtorEq, Int.reduceToNat, Int.reduceLE, Int.reduceLT, Nat.reduceLeDiff, Nat.reduceAdd, Nat.reduceMul, Int.reduceBNe, Int.reduceBEq, Int.cast_ofNat_Int, decide_true, decide_false, ne_eq, eq_self, implies_true, dc32_r0, dc32_r1, dc32_r2, dc32_r3, dc32_r4, dc32_r5, dc32_r7, dc32_r8, dc32_r6, dc32_r9, dc32, DL.dI, DL.dB, DL.dS, h0, h3, ht, h27, c1]
          by_cases e : kwL[k] = b :: r
          · have e2 : (kwL[k] == b :: r) = true := by simp [e]
            simp -dsimp -implicitDefEqProofs (maxSteps := 1000000) (disch := first | omega | (simp only [List.length_append, List.length_cons, List.length_nil]; omega) | (intros; simp only [ne_eq, reduceCtorEq, not_false_eq_true] <;> fail)) only [DL.R, Nat.reduceEqDiff, ↓reduceIte, reduceCtorEq, Int.reduceToNat, Int.reduceLE, Int.reduceLT, Nat.reduceLeDiff, Nat.reduceAdd, Nat.reduceMul, Int.reduceBNe, Int.reduceBEq, Int.cast_ofNat_Int, decide_true, decide_false, ne_eq, eq_self, implies_true, dc32_r0, dc32_r1, dc32_r2, dc32_r3, dc32_r4, dc32_r5, dc32_r7, dc32_r8, dc32_r6, dc32_r9, dc32, DL.dI, DL.dB, DL.dS, h0, h3, ht, e2]
            refine toD hQ ?_
            have : (b :: r) ∈ kwL := e ▸ List.getElem_mem c'
            simp [isWord, this]
          · have e2 : (kwL[k] == b :: r) = false := by simp [e]
            simp -dsimp -implicitDefEqProofs (maxSteps := 1000000) (disch := first | omega | (simp only [List.length_append, List.length_cons, List.length_nil]; omega) | (intros; simp only [ne_eq, reduceCtorEq, not_false_eq_true] <;> fail)) only [DL.R, Nat.reduceEqDiff, ↓reduceIte, reduceCtorEq, Int.reduceToNat, Int.reduceLE, Int.reduceLT, Nat.reduceLeDiff, Nat.reduceAdd, Nat.reduceMul, Int.reduceBNe, Int.reduceBEq, Int.cast_ofNat_Int, decide_true, decide_false, ne_eq, eq_self, implies_true, dc32_r0, dc32_r1, dc32_r2, dc32_r3, dc32_r4, dc32_r5, dc32_r7, dc32_r8, dc32_r6, dc32_r9, dc32, DL.dI, DL.dB, DL.dS, h0, h3, ht, e2, DL.wrap_id]
            refine ⟨c, rfl, fun j hj hjl => ?_⟩
            by_cases hjk : j < k
            · exact hP j hjk hjl
            · have : j = k := by omega
              subst this; exact e
        · have c1 : decide ((k : Int) < 27) = false := by simp; omega
          have hno : kwL.contains (b :: r) = false := by
            rw [← Bool.not_eq_true, List.contains_iff_mem]
            intro hm
            obtain ⟨j, hj, q⟩ := List.mem_iff_getElem.1 hm
            exact hP j (by omega) hj q
          simp -dsimp -implicitDefEqProofs (maxSteps := 1000000) (disch := first | omega | (simp only [List.length_append, List.length_cons, List.length_nil]; omega) | (intros; simp only [ne_eq, reduceCtorEq, not_false_eq_true] <;> fail)) only [DL.R, Nat.reduceEqDiff, ↓reduceIte, reduceCtorEq, Int.reduceToNat, Int.reduceLE, Int.reduceLT, Nat.reduceLeDiff, Nat.reduceAdd, Nat.reduceMul, Int.reduceBNe, Int.reduceBEq, Int.cast_ofNat_Int, decide_true, decide_false, ne_eq, eq_self, implies_true, dc32_r0, dc32_r1, dc32_r2, dc32_r3, dc32_r4, dc32_r5, dc32_r7, dc32_r8, dc32_r6, dc32_r9, dc32, DL.dI, DL.dB, DL.dS, h0, h3, ht, h27, c1]
          refine end_spec (b :: r) 0 (by simp) hs ?_
          simp -dsimp -implicitDefEqProofs (maxSteps := 1000000) (disch := first | omega | (simp only [List.length_append, List.length_cons, List.length_nil]; omega) | (intros; simp only [ne_eq, reduceCtorEq, not_false_eq_true] <;> fail)) only [DL.R, Nat.reduceEqDiff, ↓reduceIte, reduceCtorEq, Int.reduceToNat, Int.reduceLE, Int.reduceLT, Nat.reduceLeDiff, Nat.reduceAdd, Nat.reduceMul, Int.reduceBNe, Int.reduceBEq, Int.cast_ofNat_Int, decide_true, decide_false, ne_eq, eq_self, implies_true, dc32_r0, dc32_r1, dc32_r2, dc32_r3, dc32_r4, dc32_r5, dc32_r7, dc32_r8, dc32_r6, dc32_r9, dc32, DL.dI, DL.dB, DL.dS, h0]
          refine toD hQ ?_
          congr 2
          simp only [isWord, h1, hno, Bool.not_false, Bool.and_true, Bool.true_and, endF, List.drop_zero]
          have htk : tok (b :: r) = short (1 + (r.takeWhile isEither).length) := by simp [tok, h1]
          split
          · rename_i q; rw [q]; simp; omega
          · rename_i q; rw [Bool.eq_iff_iff]; simp; omega
    · have h1' : isLetter b = false := by simpa using h1
      have e1 : (kindN b != 1) = true := by unfold kindN; rw [h1']; simp; split <;> decide
      simp -dsimp -implicitDefEqProofs (maxSteps := 1000000) (disch := first | omega | (simp only [List.length_append, List.length_cons, List.length_nil]; omega) | (intros; simp only [ne_eq, reduceCtorEq, not_false_eq_true] <;> fail)) only [DL.R, Nat.reduceEqDiff, ↓reduceIte, reduceCtorEq, Int.reduceToNat, Int.reduceLE, Int.reduceLT, Nat.reduceLeDiff, Nat.reduceAdd, Nat.reduceMul, Int.reduceBNe, Int.reduceBEq, Int.cast_ofNat_Int, decide_true, decide_false, ne_eq, eq_self, implies_true, dc32_r0, dc32_r1, dc32_r2, dc32_r3, dc32_r4, dc32_r5, dc32_r7, dc32_r8, dc32_r6, dc32_r9, dc32, DL.dI, DL.dB, DL.dS, e1]
      refine toD hQ ?_
      simp [isWord, h1']
def scanN : Nat → List UInt8 → Nat → List Tok → List Tok × List UInt8 × Int
  | 0, _, p, _ => ([], [], (p : Int))
  | n + 1, r, p, acc =>
    if r.drop (bl false r) = [] then (acc, r.take (bl false r), -1)
    else if tok (r.drop (bl false r)) = 0 then ([], [], ((p + bl false r : Nat) : Int))
    else scanN n ((r.drop (bl false r)).drop (tok (r.drop (bl false r)))) (p + bl false r + tok (r.drop (bl false r))) (acc ++ [⟨(r.drop (bl false r)).take (tok (r.drop (bl false r))), r.take (bl false r)⟩])
def scan (l : List UInt8) : List Tok × List UInt8 × Int := if l.length > 8192 then ([], [], 8192) else scanN (l.length + 1) l 0 []
def scanD (x : List Tok × List UInt8 × Int) : D := .tup [.sl (toksD x.1), dS (str x.2.1), dI x.2.2]
theorem below_scan (n : Nat) (x : List Tok × List UInt8 × Int) : Below n (scanD x) := by
  simp [scanD, below_tup, below_sl, below_lit, toksD, tokD, D.leaves]
theorem tok_le (b : UInt8) (r : List UInt8) : tok (b :: r) ≤ (b :: r).length := by
  have h1 : ∀ p : UInt8 → Bool, (r.takeWhile p).length ≤ r.length := fun p => (List.takeWhile_sublist p).length_le
  have h2 : ∀ n, short n ≤ n := fun n => by unfold short; split <;> omega
  simp only [tok]
  split
  · have := h1 isEither; have := h2 (1 + (r.takeWhile isEither).length); simp; omega
  · split
    · have := h1 isDigit; have := h2 (1 + (r.takeWhile isDigit).length); simp; omega
    · cases h : signsL.find? fun x => Lib.hasPrefix (b :: r) x with
      | none => simp
      | some x =>
        have := List.find?_some h
        simp only [Lib.hasPrefix] at this
        have := (List.isPrefixOf_iff_prefix.1 this).length_le
        simpa using this
theorem toksD_snoc (a : List Tok) (t : Tok) : toksD (a ++ [t]) = toksD a ++ [tokD t] := by simp [toksD]
theorem acc_len {n : Nat} {a : List Tok} {p : Nat} (h : a.length ≤ p) (hp : p ≤ 8192) : (toksD a).length ≤ 8192 := by simp [toksD]; omega
theorem rscan_spec (l : List UInt8) (hl : l.length ≤ 1099511627776) (hQ : Q (scanD (scan l)) H) : CallA Tryd.prog G 10 [dS (str l)] H Q := by
  refine CallA.deep (s10 (Nat.le_of_ble_eq_true rfl) ?_)
  by_cases c0 : l.length > 8192
  · have e0 : decide ((l.length : Int) > 8192) = true := by simp; omega
    simp -dsimp -implicitDefEqProofs (maxSteps := 1000000) (disch := first | omega | (simp only [List.length_append, List.length_cons, List.length_nil]; omega) | (intros; simp only [ne_eq, reduceCtorEq, not_false_eq_true] <;> fail)) only [DL.R, Nat.reduceEqDiff, ↓reduceIte, reduceCtorEq, Int.reduceToNat, Int.reduceLE, Int.reduceLT, Nat.reduceLeDiff, Nat.reduceAdd, Nat.reduceMul, Int.reduceBNe, Int.reduceBEq, Int.cast_ofNat_Int, decide_true, decide_false, ne_eq, eq_self, implies_true, dc10_r0, dc10_r1, dc10_r2, dc10_r3, dc10_r4, dc10_r5, dc10_r6, dc10_r7, dc10_r8, dc10_r9, dc10_r10, dc10_r11, dc10_r12, dc10_r13, dc10, DL.dI, DL.dB, DL.dS, e0]
    exact ⟨[], scanD (scan l), by simp, Deep.tup3 (by simp [scan, c0, toksD]; exact Deep.nil _) (by simp [scan, c0]; exact Deep.refl _ _) (by simp [scan, c0]; exact Deep.refl _ _), below_scan _ _, hQ⟩
  · have e0 : decide ((l.length : Int) > 8192) = false := by simp; omega
    simp -dsimp -implicitDefEqProofs (maxSteps := 1000000) (disch := first | omega | (simp only [List.length_append, List.length_cons, List.length_nil]; omega) | (intros; simp only [ne_eq, reduceCtorEq, not_false_eq_true] <;> fail)) only [DL.R, Nat.reduceEqDiff, ↓reduceIte, reduceCtorEq, Int.reduceToNat, Int.reduceLE, Int.reduceLT, Nat.reduceLeDiff, Nat.reduceAdd, Nat.reduceMul, Int.reduceBNe, Int.reduceBEq, Int.cast_ofNat_Int, decide_true, decide_false, ne_eq, eq_self, implies_true, dc10_r0, dc10_r1, dc10_r2, dc10_r3, dc10_r4, dc10_r5, dc10_r6, dc10_r7, dc10_r8, dc10_r9, dc10_r10, dc10_r11, dc10_r12, dc10_r13, dc10, DL.dI, DL.dB, DL.dS, e0]
    refine ⟨by omega, ?_⟩
    refine loop_i (fun s' H' => s' 0 = dS (str l) ∧ ∃ (p n ver : Nat) (acc : List Tok), p ≤ l.length ∧ acc.length ≤ p ∧ l.length - p < n ∧ scan l = scanN n (l.drop p) p acc ∧ s' 6 = dI p ∧ s' 5 = .row H.length ver ∧ H' = H ++ [.row true ver 34 2 (toksD acc)]) (fun s' _ => l.length - (s' 6).toN) ?_ ?_
    · simp -dsimp -implicitDefEqProofs (maxSteps := 1000000) (disch := first | omega | (simp only [List.length_append, List.length_cons, List.length_nil]; omega) | (intros; simp only [ne_eq, reduceCtorEq, not_false_eq_true] <;> fail)) only [DL.R, Nat.reduceEqDiff, ↓reduceIte, reduceCtorEq, Int.reduceToNat, Int.reduceLE, Int.reduceLT, Nat.reduceLeDiff, Nat.reduceAdd, Nat.reduceMul, Int.reduceBNe, Int.reduceBEq, Int.cast_ofNat_Int, decide_true, decide_false, ne_eq, eq_self, implies_true, DL.dI, DL.dB, DL.dS]
      exact ⟨0, l.length + 1, 0, [], by omega, by simp, by omega, by simp [scan, c0], rfl, rfl, rfl⟩
    · rintro s' H' ⟨h0, p, n, ver, acc, hp, ha, hn, hS, h6, h5, rfl⟩
      obtain ⟨n, rfl⟩ : ∃ m, n = m + 1 := ⟨n - 1, by omega⟩
      rw [scanN] at hS
      have hble := bl_le false (l.drop p)
      rw [List.length_drop] at hble
      obtain ⟨k, hk⟩ : ∃ k, bl false (l.drop p) = k := ⟨_, rfl⟩
      rw [hk] at hS hble
      rw [List.drop_drop] at hS
      simp -dsimp -implicitDefEqProofs (maxSteps := 1000000) (disch := first | omega | (simp only [List.length_append, List.length_cons, List.length_nil]; omega) | (intros; simp only [ne_eq, reduceCtorEq, not_false_eq_true] <;> fail)) only [DL.R, Nat.reduceEqDiff, ↓reduceIte, reduceCtorEq, Int.reduceToNat, Int.reduceLE, Int.reduceLT, Nat.reduceLeDiff, Nat.reduceAdd, Nat.reduceMul, Int.reduceBNe, Int.reduceBEq, Int.cast_ofNat_Int, decide_true, decide_false, ne_eq, eq_self, implies_true, dc10_r0, dc10_r1, dc10_r2, dc10_r3, dc10_r4, dc10_r5, dc10_r6, dc10_r7, dc10_r8, dc10_r9, dc10_r10, dc10_r11, dc10_r12, dc10_r13, dc10, DL.dI, DL.dB, DL.dS, h0, h6, h5]
      refine skip_spec l p hp hl ?_
      rw [hk]
      simp -dsimp -implicitDefEqProofs (maxSteps := 1000000) (disch := first | omega | (simp only [List.length_append, List.length_cons, List.length_nil]; omega) | (intros; simp only [ne_eq, reduceCtorEq, not_false_eq_true] <;> fail)) only [DL.R, Nat.reduceEqDiff, ↓reduceIte, reduceCtorEq, Int.reduceToNat, Int.reduceLE, Int.reduceLT, Nat.reduceLeDiff, Nat.reduceAdd, Nat.reduceMul, Int.reduceBNe, Int.reduceBEq, Int.cast_ofNat_Int, decide_true, decide_false, ne_eq, eq_self, implies_true, dc10_r0, dc10_r1, dc10_r2, dc10_r3, dc10_r4, dc10_r5, dc10_r6, dc10_r7, dc10_r8, dc10_r9, dc10_r10, dc10_r11, dc10_r12, dc10_r13, dc10, DL.dI, DL.dB, DL.dS, h0, h6, h5]
      refine ⟨by omega, by omega, by omega, ?_⟩
      have n1 : p + k - p = k := by omega
      by_cases c1 : p + k = l.length
      · have e1 : (((p + k : Nat) : Int) == (l.length : Int)) = true := by simp [c1]
        have hnil : l.drop (p + k) = [] := List.drop_of_length_le (by omega)
        rw [if_pos hnil] at hS
        simp -dsimp -implicitDefEqProofs (maxSteps := 1000000) (disch := first | omega | (simp only [List.length_append, List.length_cons, List.length_nil]; omega) | (intros; simp only [ne_eq, reduceCtorEq, not_false_eq_true] <;> fail)) only [DL.R, Nat.reduceEqDiff, ↓reduceIte, reduceCtorEq, Int.reduceToNat, Int.reduceLE, Int.reduceLT, Nat.reduceLeDiff, Nat.reduceAdd, Nat.reduceMul, Int.reduceBNe, Int.reduceBEq, Int.cast_ofNat_Int, decide_true, decide_false, ne_eq, eq_self, implies_true, dc10_r0, dc10_r1, dc10_r2, dc10_r3, dc10_r4, dc10_r5, dc10_r6, dc10_r7, dc10_r8, dc10_r9, dc10_r10, dc10_r11, dc10_r12, dc10_r13, dc10, DL.dI, DL.dB, DL.dS, h0, h6, h5, e1, n1]
        refine ⟨_, scanD (scan l), rfl, ?_, below_scan _ _, hQ⟩
        rw [hS]
        exact Deep.tup3 (Deep.own0 rfl) (Deep.refl _ _) (Deep.refl _ _)
      · have e1 : (((p + k : Nat) : Int) == (l.length : Int)) = false := by simp; omega
        have hcons : l.drop (p + k) ≠ [] := by simp; omega
        rw [if_neg hcons] at hS
        have htk : 0 < tok (l.drop (p + k)) → tok (l.drop (p + k)) ≤ l.length - (p + k) := fun _ => by
          cases hh : l.drop (p + k) with
          | nil => exact absurd hh hcons
          | cons b r => have := tok_le b r; rw [← hh, List.length_drop] at this; rw [← hh]; exact this
        simp -dsimp -implicitDefEqProofs (maxSteps := 1000000) (disch := first | omega | (simp only [List.length_append, List.length_cons, List.length_nil]; omega) | (intros; simp only [ne_eq, reduceCtorEq, not_false_eq_true] <;> fail)) only [DL.R, Nat.reduceEqDiff, ↓reduceIte, reduceCtorEq, Int.reduceToNat, Int.reduceLE, Int.reduceLT, Nat.reduceLeDiff, Nat.reduceAdd, Nat.reduceMul, Int.reduceBNe, Int.reduceBEq, Int.cast_ofNat_Int, decide_true, decide_false, ne_eq, eq_self, implies_true, dc10_r0, dc10_r1, dc10_r2, dc10_r3, dc10_r4, dc10_r5, dc10_r6, dc10_r7, dc10_r8, dc10_r9, dc10_r10, dc10_r11, dc10_r12, dc10_r13, dc10, DL.dI, DL.dB, DL.dS, h0, h6, h5, e1, n1]
        refine end_spec l (p + k) (by omega) hl ?_
        obtain ⟨t, htt⟩ : ∃ t, tok (l.drop (p + k)) = t := ⟨_, rfl⟩
        unfold endF
        rw [htt] at hS htk ⊢
        by_cases c2 : t = 0
        · rw [if_pos c2] at hS ⊢
          simp -dsimp -implicitDefEqProofs (maxSteps := 1000000) (disch := first | omega | (simp only [List.length_append, List.length_cons, List.length_nil]; omega) | (intros; simp only [ne_eq, reduceCtorEq, not_false_eq_true] <;> fail)) only [DL.R, Nat.reduceEqDiff, ↓reduceIte, reduceCtorEq, Int.reduceToNat, Int.reduceLE, Int.reduceLT, Nat.reduceLeDiff, Nat.reduceAdd, Nat.reduceMul, Int.reduceBNe, Int.reduceBEq, Int.cast_ofNat_Int, decide_true, decide_false, ne_eq, eq_self, implies_true, dc10_r0, dc10_r1, dc10_r2, dc10_r3, dc10_r4, dc10_r5, dc10_r6, dc10_r7, dc10_r8, dc10_r9, dc10_r10, dc10_r11, dc10_r12, dc10_r13, dc10, DL.dI, DL.dB, DL.dS, h0, h6, h5, n1]
          refine ⟨_, scanD (scan l), rfl, ?_, below_scan _ _, hQ⟩
          rw [hS]
          exact Deep.tup3 (Deep.nil _) (Deep.refl _ _) (Deep.refl _ _)
        · rw [if_neg c2] at hS ⊢
          have e2 : decide (((p + k + t : Nat) : Int) < 0) = false := by simp; omega
          have htk := htk (by omega)
          simp -dsimp -implicitDefEqProofs (maxSteps := 1000000) (disch := first | omega | (simp only [List.length_append, List.length_cons, List.length_nil]; omega) | (intros; simp only [ne_eq, reduceCtorEq, not_false_eq_true] <;> fail)) only [DL.R, Nat.reduceEqDiff, ↓reduceIte, reduceCtorEq, Int.reduceToNat, Int.reduceLE, Int.reduceLT, Nat.reduceLeDiff, Nat.reduceAdd, Nat.reduceMul, Int.reduceBNe, Int.reduceBEq, Int.cast_ofNat_Int, decide_true, decide_false, ne_eq, eq_self, implies_true, dc10_r0, dc10_r1, dc10_r2, dc10_r3, dc10_r4, dc10_r5, dc10_r6, dc10_r7, dc10_r8, dc10_r9, dc10_r10, dc10_r11, dc10_r12, dc10_r13, dc10, DL.dI, DL.dB, DL.dS, h0, h6, h5, n1, e2]
          refine ⟨by omega, by omega, by omega, ?_⟩
          have n2 : p + k + t - (p + k) = t := by omega
          have hlen : (toksD acc).length ≤ 8192 := acc_len (n := n) ha (by omega)
          simp -dsimp -implicitDefEqProofs (maxSteps := 1000000) (disch := first | omega | (simp only [List.length_append, List.length_cons, List.length_nil]; omega) | (intros; simp only [ne_eq, reduceCtorEq, not_false_eq_true] <;> fail)) only [DL.R, Nat.reduceEqDiff, ↓reduceIte, reduceCtorEq, Int.reduceToNat, Int.reduceLE, Int.reduceLT, Nat.reduceLeDiff, Nat.reduceAdd, Nat.reduceMul, Int.reduceBNe, Int.reduceBEq, Int.cast_ofNat_Int, decide_true, decide_false, ne_eq, eq_self, implies_true, dc10_r0, dc10_r1, dc10_r2, dc10_r3, dc10_r4, dc10_r5, dc10_r6, dc10_r7, dc10_r8, dc10_r9, dc10_r10, dc10_r11, dc10_r12, dc10_r13, dc10, DL.dI, DL.dB, DL.dS, h0, h6, h5, n2, DL.D.toN]
          refine ⟨by omega, ⟨p + k + t, n, ver + 1, acc ++ [⟨(l.drop (p + k)).take t, (l.drop p).take k⟩], by omega, by simp; omega, by omega, by rw [hS, List.drop_drop], rfl, rfl, by rw [toksD_snoc]; rfl⟩, by omega⟩
end Go.Proofs.Tryd
set_option maxRecDepth 100000
set_option linter.unusedSimpArgs false
set_option linter.unusedVariables false
namespace Go.Proofs.Tryd
open Go Go.DL
variable {G : Nat → D} {H : List O} {Q : D → List O → Prop}
def kindsL : List (List UInt8) := [[109, 97, 107, 101], [109, 97, 107, 101], [109, 97, 107, 101], [116, 121, 112, 101], [98, 111, 100, 121], [110, 97, 109, 101], [109, 111, 118, 101], [109, 111, 118, 101], [109, 97, 107, 101], [116, 121, 112, 101], [116, 121, 112, 101], [98, 111, 100, 121], [98, 111, 100, 121], [108, 97, 121, 111, 117, 116]]
structure Env (G : Nat → D) : Prop where
  kinds : G 0 = .el (strs kindsL)
  kw : G 1 = .el (strs kwL)
  kindsF : G 2 = kindsD
  signs : G 3 = .el (strs signsL)
  errS : G 6 = .el [.nn] ∨ G 6 = .el [.lit .nilIface]
theorem scan_spec (hE : Env G) (l : List UInt8) (hl : l.length ≤ 1099511627776) (hQ : Q (scanD (scan l)) H) : CallA Tryd.prog G 24 [dS (str l)] H Q := by
  refine CallA.deep (s24 (Nat.le_of_ble_eq_true rfl) ?_)
  by_cases c0 : l.length > 8192
  · have e0 : decide ((l.length : Int) > 8192) = true := by simp; omega
    simp -dsimp -implicitDefEqProofs (maxSteps := 1000000) (disch := first | omega | (simp only [List.length_append, List.length_cons, List.length_nil]; omega) | (intros; simp only [ne_eq, reduceCtorEq, not_false_eq_true] <;> fail)) only [DL.R, Nat.reduceEqDiff, ↓reduceIte, reduceCtorEq, Int.reduceToNat, Int.reduceLE, Int.reduceLT, Nat.reduceLeDiff, Nat.reduceAdd, Nat.reduceMul, Int.reduceBNe, Int.reduceBEq, Int.cast_ofNat_Int, decide_true, decide_false, ne_eq, eq_self, implies_true, dc24_r0, dc24_r1, dc24_r2, dc24_r3, dc24_r4, dc24_r5, dc24_r6, dc24_r7, dc24_r8, dc24_r9, dc24_r10, dc24_r11, dc24_r12, dc24_r13, dc24_r14, dc24, DL.dI, DL.dB, DL.dS, e0]
    exact ⟨[], scanD (scan l), by simp, Deep.tup3 (by simp [scan, c0, toksD]; exact Deep.nil _) (by simp [scan, c0]; exact Deep.refl _ _) (by simp [scan, c0]; exact Deep.refl _ _), below_scan _ _, hQ⟩
  · have e0 : decide ((l.length : Int) > 8192) = false := by simp; omega
    simp -dsimp -implicitDefEqProofs (maxSteps := 1000000) (disch := first | omega | (simp only [List.length_append, List.length_cons, List.length_nil]; omega) | (intros; simp only [ne_eq, reduceCtorEq, not_false_eq_true] <;> fail)) only [DL.R, Nat.reduceEqDiff, ↓reduceIte, reduceCtorEq, Int.reduceToNat, Int.reduceLE, Int.reduceLT, Nat.reduceLeDiff, Nat.reduceAdd, Nat.reduceMul, Int.reduceBNe, Int.reduceBEq, Int.cast_ofNat_Int, decide_true, decide_false, ne_eq, eq_self, implies_true, dc24_r0, dc24_r1, dc24_r2, dc24_r3, dc24_r4, dc24_r5, dc24_r6, dc24_r7, dc24_r8, dc24_r9, dc24_r10, dc24_r11, dc24_r12, dc24_r13, dc24_r14, dc24, DL.dI, DL.dB, DL.dS, e0]
    refine ⟨by omega, ?_⟩
    refine loop_i (fun s' H' => s' 0 = dS (str l) ∧ ∃ (p n ver : Nat) (acc : List Tok), p ≤ l.length ∧ acc.length ≤ p ∧ l.length - p < n ∧ scan l = scanN n (l.drop p) p acc ∧ s' 6 = dI p ∧ s' 5 = .row H.length ver ∧ H' = H ++ [.row true ver 52 2 (toksD acc)]) (fun s' _ => l.length - (s' 6).toN) ?_ ?_
    · simp -dsimp -implicitDefEqProofs (maxSteps := 1000000) (disch := first | omega | (simp only [List.length_append, List.length_cons, List.length_nil]; omega) | (intros; simp only [ne_eq, reduceCtorEq, not_false_eq_true] <;> fail)) only [DL.R, Nat.reduceEqDiff, ↓reduceIte, reduceCtorEq, Int.reduceToNat, Int.reduceLE, Int.reduceLT, Nat.reduceLeDiff, Nat.reduceAdd, Nat.reduceMul, Int.reduceBNe, Int.reduceBEq, Int.cast_ofNat_Int, decide_true, decide_false, ne_eq, eq_self, implies_true, DL.dI, DL.dB, DL.dS]
      exact ⟨0, l.length + 1, 0, [], by omega, by simp, by omega, by simp [scan, c0], rfl, rfl, rfl⟩
    · rintro s' H' ⟨h0, p, n, ver, acc, hp, ha, hn, hS, h6, h5, rfl⟩
      obtain ⟨n, rfl⟩ : ∃ m, n = m + 1 := ⟨n - 1, by omega⟩
      rw [scanN] at hS
      have hble := bl_le false (l.drop p)
      rw [List.length_drop] at hble
      obtain ⟨k, hk⟩ : ∃ k, bl false (l.drop p) = k := ⟨_, rfl⟩
      rw [hk] at hS hble
      rw [List.drop_drop] at hS
      have t1 : (l.drop p).take (l.length - p) = l.drop p := List.take_of_length_le (by simp)
      simp -dsimp -implicitDefEqProofs (maxSteps := 1000000) (disch := first | omega | (simp only [List.length_append, List.length_cons, List.length_nil]; omega) | (intros; simp only [ne_eq, reduceCtorEq, not_false_eq_true] <;> fail)) only [DL.R, Nat.reduceEqDiff, ↓reduceIte, reduceCtorEq, Int.reduceToNat, Int.reduceLE, Int.reduceLT, Nat.reduceLeDiff, Nat.reduceAdd, Nat.reduceMul, Int.reduceBNe, Int.reduceBEq, Int.cast_ofNat_Int, decide_true, decide_false, ne_eq, eq_self, implies_true, dc24_r0, dc24_r1, dc24_r2, dc24_r3, dc24_r4, dc24_r5, dc24_r6, dc24_r7, dc24_r8, dc24_r9, dc24_r10, dc24_r11, dc24_r12, dc24_r13, dc24_r14, dc24, DL.dI, DL.dB, DL.dS, h0, h6, h5, t1]
      refine ⟨by omega, by omega, ?_⟩
      refine blanks_spec (l.drop p) (by simp; omega) ?_
      rw [hk]
      simp -dsimp -implicitDefEqProofs (maxSteps := 1000000) (disch := first | omega | (simp only [List.length_append, List.length_cons, List.length_nil]; omega) | (intros; simp only [ne_eq, reduceCtorEq, not_false_eq_true] <;> fail)) only [DL.R, Nat.reduceEqDiff, ↓reduceIte, reduceCtorEq, Int.reduceToNat, Int.reduceLE, Int.reduceLT, Nat.reduceLeDiff, Nat.reduceAdd, Nat.reduceMul, Int.reduceBNe, Int.reduceBEq, Int.cast_ofNat_Int, decide_true, decide_false, ne_eq, eq_self, implies_true, dc24_r0, dc24_r1, dc24_r2, dc24_r3, dc24_r4, dc24_r5, dc24_r6, dc24_r7, dc24_r8, dc24_r9, dc24_r10, dc24_r11, dc24_r12, dc24_r13, dc24_r14, dc24, DL.dI, DL.dB, DL.dS, h0, h6, h5, DL.wrap_id]
      refine ⟨by omega, by omega, by omega, ?_⟩
      have n1 : ((p : Int) + (k : Int)).toNat - p = k := by omega
      by_cases c1 : p + k = l.length
      · have e1 : (((p : Int) + (k : Int)) == (l.length : Int)) = true := by simp; omega
        have hnil : l.drop (p + k) = [] := List.drop_of_length_le (by omega)
        rw [if_pos hnil] at hS
        simp -dsimp -implicitDefEqProofs (maxSteps := 1000000) (disch := first | omega | (simp only [List.length_append, List.length_cons, List.length_nil]; omega) | (intros; simp only [ne_eq, reduceCtorEq, not_false_eq_true] <;> fail)) only [DL.R, Nat.reduceEqDiff, ↓reduceIte, reduceCtorEq, Int.reduceToNat, Int.reduceLE, Int.reduceLT, Nat.reduceLeDiff, Nat.reduceAdd, Nat.reduceMul, Int.reduceBNe, Int.reduceBEq, Int.cast_ofNat_Int, decide_true, decide_false, ne_eq, eq_self, implies_true, dc24_r0, dc24_r1, dc24_r2, dc24_r3, dc24_r4, dc24_r5, dc24_r6, dc24_r7, dc24_r8, dc24_r9, dc24_r10, dc24_r11, dc24_r12, dc24_r13, dc24_r14, dc24, DL.dI, DL.dB, DL.dS, h0, h6, h5, e1, n1]
        refine ⟨_, scanD (scan l), rfl, ?_, below_scan _ _, hQ⟩
        rw [hS]
        exact Deep.tup3 (Deep.own0 rfl) (Deep.refl _ _) (Deep.refl _ _)
      · have e1 : (((p : Int) + (k : Int)) == (l.length : Int)) = false := by simp; omega
        have hcons : l.drop (p + k) ≠ [] := by simp; omega
        rw [if_neg hcons] at hS
        have t2 : (l.drop (((p : Int) + (k : Int)).toNat)).take (l.length - ((p : Int) + (k : Int)).toNat) = l.drop (p + k) := by
          rw [show ((p : Int) + (k : Int)).toNat = p + k by omega]; exact List.take_of_length_le (by simp)
        simp -dsimp -implicitDefEqProofs (maxSteps := 1000000) (disch := first | omega | (simp only [List.length_append, List.length_cons, List.length_nil]; omega) | (intros; simp only [ne_eq, reduceCtorEq, not_false_eq_true] <;> fail)) only [DL.R, Nat.reduceEqDiff, ↓reduceIte, reduceCtorEq, Int.reduceToNat, Int.reduceLE, Int.reduceLT, Nat.reduceLeDiff, Nat.reduceAdd, Nat.reduceMul, Int.reduceBNe, Int.reduceBEq, Int.cast_ofNat_Int, decide_true, decide_false, ne_eq, eq_self, implies_true, dc24_r0, dc24_r1, dc24_r2, dc24_r3, dc24_r4, dc24_r5, dc24_r6, dc24_r7, dc24_r8, dc24_r9, dc24_r10, dc24_r11, dc24_r12, dc24_r13, dc24_r14, dc24, DL.dI, DL.dB, DL.dS, h0, h6, h5, e1, n1, t2]
        refine ⟨by omega, by omega, ?_⟩
        obtain ⟨b, r, hbr⟩ : ∃ b r, l.drop (p + k) = b :: r := by
          cases hh : l.drop (p + k) with
          | nil => exact absurd hh hcons
          | cons b r => exact ⟨b, r, rfl⟩
        have hrl := congrArg List.length hbr
        simp only [List.length_drop, List.length_cons] at hrl
        rw [hbr]
        refine token_spec b r (by omega) hE.kindsF hE.signs ?_
        rw [← hbr]
        have htk : tok (l.drop (p + k)) ≤ l.length - (p + k) := by
          have := tok_le b r; rw [← hbr, List.length_drop] at this; exact this
        obtain ⟨t, htt⟩ : ∃ t, tok (l.drop (p + k)) = t := ⟨_, rfl⟩
        rw [htt] at hS htk ⊢
        by_cases c2 : t = 0
        · rw [if_pos c2] at hS
          subst c2
          have e2 : decide ((0 : Int) > 0) = false := by simp
          simp -dsimp -implicitDefEqProofs (maxSteps := 1000000) (disch := first | omega | (simp only [List.length_append, List.length_cons, List.length_nil]; omega) | (intros; simp only [ne_eq, reduceCtorEq, not_false_eq_true] <;> fail)) only [DL.R, Nat.reduceEqDiff, ↓reduceIte, reduceCtorEq, Int.reduceToNat, Int.reduceLE, Int.reduceLT, Nat.reduceLeDiff, Nat.reduceAdd, Nat.reduceMul, Int.reduceBNe, Int.reduceBEq, Int.cast_ofNat_Int, decide_true, decide_false, ne_eq, eq_self, implies_true, dc24_r0, dc24_r1, dc24_r2, dc24_r3, dc24_r4, dc24_r5, dc24_r6, dc24_r7, dc24_r8, dc24_r9, dc24_r10, dc24_r11, dc24_r12, dc24_r13, dc24_r14, dc24, DL.dI, DL.dB, DL.dS, h0, h6, h5, n1, e2]
          refine ⟨_, scanD (scan l), rfl, ?_, below_scan _ _, hQ⟩
          rw [hS]
          simp only [scanD, Int.natCast_add]
          exact Deep.tup3 (Deep.nil _) (Deep.refl _ _) (Deep.refl _ _)
        · rw [if_neg c2] at hS
          have e2 : decide ((t : Int) > 0) = true := by simp; omega
          have n2 : ((p : Int) + (k : Int) + (t : Int)).toNat - (p + k) = t := by omega
          have n3 : ((p : Int) + (k : Int)).toNat = p + k := by omega
          have hlen : (toksD acc).length ≤ 8192 := acc_len (n := n) ha (by omega)
          simp -dsimp -implicitDefEqProofs (maxSteps := 1000000) (disch := first | omega | (simp only [List.length_append, List.length_cons, List.length_nil]; omega) | (intros; simp only [ne_eq, reduceCtorEq, not_false_eq_true] <;> fail)) only [DL.R, Nat.reduceEqDiff, ↓reduceIte, reduceCtorEq, Int.reduceToNat, Int.reduceLE, Int.reduceLT, Nat.reduceLeDiff, Nat.reduceAdd, Nat.reduceMul, Int.reduceBNe, Int.reduceBEq, Int.cast_ofNat_Int, decide_true, decide_false, ne_eq, eq_self, implies_true, dc24_r0, dc24_r1, dc24_r2, dc24_r3, dc24_r4, dc24_r5, dc24_r6, dc24_r7, dc24_r8, dc24_r9, dc24_r10, dc24_r11, dc24_r12, dc24_r13, dc24_r14, dc24, DL.dI, DL.dB, DL.dS, h0, h6, h5, n2, n3, e2, DL.wrap_id, DL.D.toN]
          refine ⟨by omega, by omega, by omega, by omega, ⟨p + k + t, n, ver + 1, acc ++ [⟨(l.drop (p + k)).take t, (l.drop p).take k⟩], by omega, by simp; omega, by omega, by rw [hS, List.drop_drop], by simp, rfl, by rw [toksD_snoc]; rfl⟩, by omega⟩
end Go.Proofs.Tryd
set_option maxRecDepth 100000
set_option linter.unusedSimpArgs false
set_option linter.unusedVariables false
namespace Go.Proofs.Tryd
open Go Go.DL
variable {G : Nat → D} {H : List O} {Q : D → List O → Prop}
def I64 (n : Int) : Prop := -9223372036854775808 ≤ n ∧ n ≤ 9223372036854775807
def around (n m : Int) : Int := (if n < 0 then -(n+1) else n) % m
theorem around_spec (n m : Int) (hn : I64 n) (hm : 0 < m) (hm' : m ≤ 9223372036854775807) (hQ : Q (dI (around n m)) H) : CallA Tryd.prog G 11 [dI n, dI m] H Q := by
  refine s11 (Nat.le_of_ble_eq_true rfl) ?_
  unfold I64 at hn
  unfold around at hQ
  simp -dsimp -implicitDefEqProofs (maxSteps := 1000000) (disch := first | omega | (simp only [List.length_append, List.length_cons, List.length_nil]; omega) | (intros; simp only [ne_eq, reduceCtorEq, not_false_eq_true] <;> fail)) only [DL.R, Nat.reduceEqDiff, ↓reduceIte, reduceCtorEq, Int.reduceToNat, Int.reduceLE, Int.reduceLT, Nat.reduceLeDiff, Nat.reduceAdd, Nat.reduceMul, Int.reduceBNe, Int.reduceBEq, Int.cast_ofNat_Int, decide_true, decide_false, ne_eq, eq_self, implies_true, dc11_r0, dc11_r1, dc11_r2, dc11_r3, dc11, DL.dI, DL.dB, DL.dS, DL.dI, DL.dB, DL.dS]
  refine onB_i (fun h => ?_) (fun h => ?_)
  · have h' : n < 0 := by simpa using h
    simp -dsimp -implicitDefEqProofs (maxSteps := 1000000) (disch := first | omega | (simp only [List.length_append, List.length_cons, List.length_nil]; omega) | (intros; simp only [ne_eq, reduceCtorEq, not_false_eq_true] <;> fail)) only [DL.R, Nat.reduceEqDiff, ↓reduceIte, reduceCtorEq, Int.reduceToNat, Int.reduceLE, Int.reduceLT, Nat.reduceLeDiff, Nat.reduceAdd, Nat.reduceMul, Int.reduceBNe, Int.reduceBEq, Int.cast_ofNat_Int, decide_true, decide_false, ne_eq, eq_self, implies_true, dc11_r0, dc11_r1, dc11_r2, dc11_r3, dc11, DL.dI, DL.dB, DL.dS, DL.wrap_id]
    rw [if_pos h', ← Int.tmod_eq_emod_of_nonneg (by omega)] at hQ
    have e : 0 - (n + 1) = -(n + 1) := by omega
    rw [e]; exact hQ
  · have h' : ¬ n < 0 := by simpa using h
    simp -dsimp -implicitDefEqProofs (maxSteps := 1000000) (disch := first | omega | (simp only [List.length_append, List.length_cons, List.length_nil]; omega) | (intros; simp only [ne_eq, reduceCtorEq, not_false_eq_true] <;> fail)) only [DL.R, Nat.reduceEqDiff, ↓reduceIte, reduceCtorEq, Int.reduceToNat, Int.reduceLE, Int.reduceLT, Nat.reduceLeDiff, Nat.reduceAdd, Nat.reduceMul, Int.reduceBNe, Int.reduceBEq, Int.cast_ofNat_Int, decide_true, decide_false, ne_eq, eq_self, implies_true, dc11_r0, dc11_r1, dc11_r2, dc11_r3, dc11, DL.dI, DL.dB, DL.dS, DL.wrap_id]
    rw [if_neg h', ← Int.tmod_eq_emod_of_nonneg (by omega)] at hQ
    exact hQ
def ints (l : List Int) : List D := l.map dI
def at_ (l : List Int) (i m : Int) : Int := if i < 0 ∨ i ≥ l.length then 0 else around (l.getD i.toNat 0) m
theorem at_spec (l : List Int) (i m : Int) (hl : ∀ n ∈ l, I64 n) (hm : 0 < m) (hm' : m ≤ 9223372036854775807) (hQ : Q (dI (at_ l i m)) H) : CallA Tryd.prog G 13 [.sl (ints l), dI i, dI m] H Q := by
  refine s13 (Nat.le_of_ble_eq_true rfl) ?_
  unfold at_ at hQ
  have hlen : (ints l).length = l.length := by simp [ints]
  simp -dsimp -implicitDefEqProofs (maxSteps := 1000000) (disch := first | omega | (simp only [List.length_append, List.length_cons, List.length_nil]; omega) | (intros; simp only [ne_eq, reduceCtorEq, not_false_eq_true] <;> fail)) only [DL.R, Nat.reduceEqDiff, ↓reduceIte, reduceCtorEq, Int.reduceToNat, Int.reduceLE, Int.reduceLT, Nat.reduceLeDiff, Nat.reduceAdd, Nat.reduceMul, Int.reduceBNe, Int.reduceBEq, Int.cast_ofNat_Int, decide_true, decide_false, ne_eq, eq_self, implies_true, dc13_r0, dc13_r1, dc13_r2, dc13_r3, dc13, DL.dI, DL.dB, DL.dS, DL.dI, DL.dB, DL.dS, hlen]
  refine onG_i (fun h => ?_) (fun h => ?_)
  · have h' : ¬ i < 0 := by simpa using h
    simp -dsimp -implicitDefEqProofs (maxSteps := 1000000) (disch := first | omega | (simp only [List.length_append, List.length_cons, List.length_nil]; omega) | (intros; simp only [ne_eq, reduceCtorEq, not_false_eq_true] <;> fail)) only [DL.R, Nat.reduceEqDiff, ↓reduceIte, reduceCtorEq, Int.reduceToNat, Int.reduceLE, Int.reduceLT, Nat.reduceLeDiff, Nat.reduceAdd, Nat.reduceMul, Int.reduceBNe, Int.reduceBEq, Int.cast_ofNat_Int, decide_true, decide_false, ne_eq, eq_self, implies_true, dc13_r0, dc13_r1, dc13_r2, dc13_r3, dc13, DL.dI, DL.dB, DL.dS, hlen]
    refine onB_i (fun k => ?_) (fun k => ?_)
    · have k' : i ≥ l.length := by simpa using k
      simp -dsimp -implicitDefEqProofs (maxSteps := 1000000) (disch := first | omega | (simp only [List.length_append, List.length_cons, List.length_nil]; omega) | (intros; simp only [ne_eq, reduceCtorEq, not_false_eq_true] <;> fail)) only [DL.R, Nat.reduceEqDiff, ↓reduceIte, reduceCtorEq, Int.reduceToNat, Int.reduceLE, Int.reduceLT, Nat.reduceLeDiff, Nat.reduceAdd, Nat.reduceMul, Int.reduceBNe, Int.reduceBEq, Int.cast_ofNat_Int, decide_true, decide_false, ne_eq, eq_self, implies_true, dc13_r0, dc13_r1, dc13_r2, dc13_r3, dc13, DL.dI, DL.dB, DL.dS, hlen]
      rw [if_pos (.inr k')] at hQ; exact hQ
    · have k' : ¬ i ≥ l.length := by simpa using k
      simp -dsimp -implicitDefEqProofs (maxSteps := 1000000) (disch := first | omega | (simp only [List.length_append, List.length_cons, List.length_nil]; omega) | (intros; simp only [ne_eq, reduceCtorEq, not_false_eq_true] <;> fail)) only [DL.R, Nat.reduceEqDiff, ↓reduceIte, reduceCtorEq, Int.reduceToNat, Int.reduceLE, Int.reduceLT, Nat.reduceLeDiff, Nat.reduceAdd, Nat.reduceMul, Int.reduceBNe, Int.reduceBEq, Int.cast_ofNat_Int, decide_true, decide_false, ne_eq, eq_self, implies_true, dc13_r0, dc13_r1, dc13_r2, dc13_r3, dc13, DL.dI, DL.dB, DL.dS, hlen]
      rw [if_neg (by omega)] at hQ
      have hg : (ints l)[i.toNat]? = some (dI (l.getD i.toNat 0)) := by
        have : i.toNat < l.length := by omega
        simp [ints, List.getElem?_eq_getElem this, List.getD_eq_getElem?_getD]
      refine onIdx_i (by omega) hg ?_
      simp -dsimp -implicitDefEqProofs (maxSteps := 1000000) (disch := first | omega | (simp only [List.length_append, List.length_cons, List.length_nil]; omega) | (intros; simp only [ne_eq, reduceCtorEq, not_false_eq_true] <;> fail)) only [DL.R, Nat.reduceEqDiff, ↓reduceIte, reduceCtorEq, Int.reduceToNat, Int.reduceLE, Int.reduceLT, Nat.reduceLeDiff, Nat.reduceAdd, Nat.reduceMul, Int.reduceBNe, Int.reduceBEq, Int.cast_ofNat_Int, decide_true, decide_false, ne_eq, eq_self, implies_true, dc13_r0, dc13_r1, dc13_r2, dc13_r3, dc13, DL.dI, DL.dB, DL.dS, DL.dI, DL.D.leaves, DL.mkD, List.take, List.headD]
      have hin : l.getD i.toNat 0 ∈ l := by
        have : i.toNat < l.length := by omega
        simp [List.getD_eq_getElem?_getD, List.getElem?_eq_getElem this]
      refine around_spec _ _ (hl _ hin) hm hm' ?_
      simp -dsimp -implicitDefEqProofs (maxSteps := 1000000) (disch := first | omega | (simp only [List.length_append, List.length_cons, List.length_nil]; omega) | (intros; simp only [ne_eq, reduceCtorEq, not_false_eq_true] <;> fail)) only [DL.R, Nat.reduceEqDiff, ↓reduceIte, reduceCtorEq, Int.reduceToNat, Int.reduceLE, Int.reduceLT, Nat.reduceLeDiff, Nat.reduceAdd, Nat.reduceMul, Int.reduceBNe, Int.reduceBEq, Int.cast_ofNat_Int, decide_true, decide_false, ne_eq, eq_self, implies_true, dc13_r0, dc13_r1, dc13_r2, dc13_r3, dc13, DL.dI, DL.dB, DL.dS, DL.dI]
      exact hQ
  · have h' : i < 0 := by simpa using h
    simp -dsimp -implicitDefEqProofs (maxSteps := 1000000) (disch := first | omega | (simp only [List.length_append, List.length_cons, List.length_nil]; omega) | (intros; simp only [ne_eq, reduceCtorEq, not_false_eq_true] <;> fail)) only [DL.R, Nat.reduceEqDiff, ↓reduceIte, reduceCtorEq, Int.reduceToNat, Int.reduceLE, Int.reduceLT, Nat.reduceLeDiff, Nat.reduceAdd, Nat.reduceMul, Int.reduceBNe, Int.reduceBEq, Int.cast_ofNat_Int, decide_true, decide_false, ne_eq, eq_self, implies_true, dc13_r0, dc13_r1, dc13_r2, dc13_r3, dc13, DL.dI, DL.dB, DL.dS, hlen]
    rw [if_pos (.inl h')] at hQ; exact hQ
theorem ints_get {l : List Int} {k : Nat} (h : k < l.length) : (ints l)[k]? = some (dI (l[k]'h)) := by simp [ints, h]
theorem ints_len (l : List Int) : (ints l).length = l.length := by simp [ints]
end Go.Proofs.Tryd
set_option maxRecDepth 100000
set_option linter.unusedSimpArgs false
set_option linter.unusedVariables false
namespace Go.Proofs.Tryd
open Go Go.DL
variable {G : Nat → D} {H : List O} {Q : D → List O → Prop}
theorem sameInts_spec (l m : List Int) (hb : l.length ≤ 4611686018427387904) (hQ : Q (dB (l == m)) H) : CallA Tryd.prog G 34 [.sl (ints l), .sl (ints m)] H Q := by
  refine s34 (Nat.le_of_ble_eq_true rfl) ?_
  simp -dsimp -implicitDefEqProofs (maxSteps := 1000000) (disch := first | omega | (simp only [List.length_append, List.length_cons, List.length_nil]; omega) | (intros; simp only [ne_eq, reduceCtorEq, not_false_eq_true] <;> fail)) only [DL.R, Nat.reduceEqDiff, ↓reduceIte, reduceCtorEq, Int.reduceToNat, Int.reduceLE, Int.reduceLT, Nat.reduceLeDiff, Nat.reduceAdd, Nat.reduceMul, Int.reduceBNe, Int.reduceBEq, Int.cast_ofNat_Int, decide_true, decide_false, ne_eq, eq_self, implies_true, dc34_r0, dc34_r1, dc34_r2, dc34_r3, dc34_r4, dc34_r6, dc34_r7, dc34_r5, dc34_r8, dc34, DL.dI, DL.dB, DL.dS, DL.dI, DL.dB, DL.dS, ints_len]
  refine onB_i (fun c => ?_) (fun c => ?_)
  · simp -dsimp -implicitDefEqProofs (maxSteps := 1000000) (disch := first | omega | (simp only [List.length_append, List.length_cons, List.length_nil]; omega) | (intros; simp only [ne_eq, reduceCtorEq, not_false_eq_true] <;> fail)) only [DL.R, Nat.reduceEqDiff, ↓reduceIte, reduceCtorEq, Int.reduceToNat, Int.reduceLE, Int.reduceLT, Nat.reduceLeDiff, Nat.reduceAdd, Nat.reduceMul, Int.reduceBNe, Int.reduceBEq, Int.cast_ofNat_Int, decide_true, decide_false, ne_eq, eq_self, implies_true, dc34_r0, dc34_r1, dc34_r2, dc34_r3, dc34_r4, dc34_r6, dc34_r7, dc34_r5, dc34_r8, dc34, DL.dI, DL.dB, DL.dS]
    have c' : l.length ≠ m.length := by simp at c; omega
    have : (l == m) = false := by
      rw [← Bool.not_eq_true, beq_iff_eq]; intro e; exact c' (by rw [e])
    rw [this] at hQ; exact hQ
  have c' : l.length = m.length := by simp at c; omega
  simp -dsimp -implicitDefEqProofs (maxSteps := 1000000) (disch := first | omega | (simp only [List.length_append, List.length_cons, List.length_nil]; omega) | (intros; simp only [ne_eq, reduceCtorEq, not_false_eq_true] <;> fail)) only [DL.R, Nat.reduceEqDiff, ↓reduceIte, reduceCtorEq, Int.reduceToNat, Int.reduceLE, Int.reduceLT, Nat.reduceLeDiff, Nat.reduceAdd, Nat.reduceMul, Int.reduceBNe, Int.reduceBEq, Int.cast_ofNat_Int, decide_true, decide_false, ne_eq, eq_self, implies_true, dc34_r0, dc34_r1, dc34_r2, dc34_r3, dc34_r4, dc34_r6, dc34_r7, dc34_r5, dc34_r8, dc34, DL.dI, DL.dB, DL.dS]
  refine for_i 5 l.length (fun k s' H' => H' = H ∧ s' 0 = .sl (ints l) ∧ s' 1 = .sl (ints m) ∧ ∀ j, j < k → l[j]? = m[j]?) ?_ ?_ ?_
  · simp -dsimp -implicitDefEqProofs (maxSteps := 1000000) (disch := first | omega | (simp only [List.length_append, List.length_cons, List.length_nil]; omega) | (intros; simp only [ne_eq, reduceCtorEq, not_false_eq_true] <;> fail)) only [DL.R, Nat.reduceEqDiff, ↓reduceIte, reduceCtorEq, Int.reduceToNat, Int.reduceLE, Int.reduceLT, Nat.reduceLeDiff, Nat.reduceAdd, Nat.reduceMul, Int.reduceBNe, Int.reduceBEq, Int.cast_ofNat_Int, decide_true, decide_false, ne_eq, eq_self, implies_true, DL.dI, DL.dB, DL.dS]
  · simp -dsimp -implicitDefEqProofs (maxSteps := 1000000) (disch := first | omega | (simp only [List.length_append, List.length_cons, List.length_nil]; omega) | (intros; simp only [ne_eq, reduceCtorEq, not_false_eq_true] <;> fail)) only [DL.R, Nat.reduceEqDiff, ↓reduceIte, reduceCtorEq, Int.reduceToNat, Int.reduceLE, Int.reduceLT, Nat.reduceLeDiff, Nat.reduceAdd, Nat.reduceMul, Int.reduceBNe, Int.reduceBEq, Int.cast_ofNat_Int, decide_true, decide_false, ne_eq, eq_self, implies_true, DL.dI, DL.dB, DL.dS, DL.dI]
    simp
  · rintro k s' H' hk ht ⟨rfl, h0, h1, hP⟩
    simp -dsimp -implicitDefEqProofs (maxSteps := 1000000) (disch := first | omega | (simp only [List.length_append, List.length_cons, List.length_nil]; omega) | (intros; simp only [ne_eq, reduceCtorEq, not_false_eq_true] <;> fail)) only [DL.R, Nat.reduceEqDiff, ↓reduceIte, reduceCtorEq, Int.reduceToNat, Int.reduceLE, Int.reduceLT, Nat.reduceLeDiff, Nat.reduceAdd, Nat.reduceMul, Int.reduceBNe, Int.reduceBEq, Int.cast_ofNat_Int, decide_true, decide_false, ne_eq, eq_self, implies_true, dc34_r0, dc34_r1, dc34_r2, dc34_r3, dc34_r4, dc34_r6, dc34_r7, dc34_r5, dc34_r8, dc34, DL.dI, DL.dB, DL.dS, DL.dI, h0, h1, ht, ints_len]
    refine onB_i (fun c => ?_) (fun c => ?_)
    · have c1 : k < l.length := by simpa using c
      have c2 : k < m.length := by omega
      simp -dsimp -implicitDefEqProofs (maxSteps := 1000000) (disch := first | omega | (simp only [List.length_append, List.length_cons, List.length_nil]; omega) | (intros; simp only [ne_eq, reduceCtorEq, not_false_eq_true] <;> fail)) only [DL.R, Nat.reduceEqDiff, ↓reduceIte, reduceCtorEq, Int.reduceToNat, Int.reduceLE, Int.reduceLT, Nat.reduceLeDiff, Nat.reduceAdd, Nat.reduceMul, Int.reduceBNe, Int.reduceBEq, Int.cast_ofNat_Int, decide_true, decide_false, ne_eq, eq_self, implies_true, dc34_r0, dc34_r1, dc34_r2, dc34_r3, dc34_r4, dc34_r6, dc34_r7, dc34_r5, dc34_r8, dc34, DL.dI, DL.dB, DL.dS, DL.dI, h0, h1, ht, ints_len]
      refine onIdx_i (by omega) (by simpa using ints_get c1) ?_
      simp -dsimp -implicitDefEqProofs (maxSteps := 1000000) (disch := first | omega | (simp only [List.length_append, List.length_cons, List.length_nil]; omega) | (intros; simp only [ne_eq, reduceCtorEq, not_false_eq_true] <;> fail)) only [DL.R, Nat.reduceEqDiff, ↓reduceIte, reduceCtorEq, Int.reduceToNat, Int.reduceLE, Int.reduceLT, Nat.reduceLeDiff, Nat.reduceAdd, Nat.reduceMul, Int.reduceBNe, Int.reduceBEq, Int.cast_ofNat_Int, decide_true, decide_false, ne_eq, eq_self, implies_true, dc34_r0, dc34_r1, dc34_r2, dc34_r3, dc34_r4, dc34_r6, dc34_r7, dc34_r5, dc34_r8, dc34, DL.dI, DL.dB, DL.dS, DL.dI, h0, h1, ht, ints_len]
      refine onIdx_i (by omega) (by simpa using ints_get c2) ?_
      simp -dsimp -implicitDefEqProofs (maxSteps := 1000000) (disch := first | omega | (simp only [List.length_append, List.length_cons, List.length_nil]; omega) | (intros; simp only [ne_eq, reduceCtorEq, not_false_eq_true] <;> fail)) only [DL.R, Nat.reduceEqDiff, ↓reduceIte, reduceCtorEq, Int.reduceToNat, Int.reduceLE, Int.reduceLT, Nat.reduceLeDiff, Nat.reduceAdd, Nat.reduceMul, Int.reduceBNe, Int.reduceBEq, Int.cast_ofNat_Int, decide_true, decide_false, ne_eq, eq_self, implies_true, dc34_r0, dc34_r1, dc34_r2, dc34_r3, dc34_r4, dc34_r6, dc34_r7, dc34_r5, dc34_r8, dc34, DL.dI, DL.dB, DL.dS, DL.dI, h0, h1, ht, ints_len]
      refine onB_i (fun e => ?_) (fun e => ?_)
      · have e' : ¬ l[k] = m[k] := by simpa using e
        simp -dsimp -implicitDefEqProofs (maxSteps := 1000000) (disch := first | omega | (simp only [List.length_append, List.length_cons, List.length_nil]; omega) | (intros; simp only [ne_eq, reduceCtorEq, not_false_eq_true] <;> fail)) only [DL.R, Nat.reduceEqDiff, ↓reduceIte, reduceCtorEq, Int.reduceToNat, Int.reduceLE, Int.reduceLT, Nat.reduceLeDiff, Nat.reduceAdd, Nat.reduceMul, Int.reduceBNe, Int.reduceBEq, Int.cast_ofNat_Int, decide_true, decide_false, ne_eq, eq_self, implies_true, dc34_r0, dc34_r1, dc34_r2, dc34_r3, dc34_r4, dc34_r6, dc34_r7, dc34_r5, dc34_r8, dc34, DL.dI, DL.dB, DL.dS, DL.dI, h0, h1, ht, ints_len]
        have : (l == m) = false := by
          rw [← Bool.not_eq_true, beq_iff_eq]; intro e; subst e; exact e' rfl
        rw [this] at hQ; exact hQ
      · have e' : l[k] = m[k] := by simpa using e
        simp -dsimp -implicitDefEqProofs (maxSteps := 1000000) (disch := first | omega | (simp only [List.length_append, List.length_cons, List.length_nil]; omega) | (intros; simp only [ne_eq, reduceCtorEq, not_false_eq_true] <;> fail)) only [DL.R, Nat.reduceEqDiff, ↓reduceIte, reduceCtorEq, Int.reduceToNat, Int.reduceLE, Int.reduceLT, Nat.reduceLeDiff, Nat.reduceAdd, Nat.reduceMul, Int.reduceBNe, Int.reduceBEq, Int.cast_ofNat_Int, decide_true, decide_false, ne_eq, eq_self, implies_true, dc34_r0, dc34_r1, dc34_r2, dc34_r3, dc34_r4, dc34_r6, dc34_r7, dc34_r5, dc34_r8, dc34, DL.dI, DL.dB, DL.dS, DL.dI, h0, h1, ht, ints_len, DL.wrap_id]
        refine ⟨c1, fun j hj => ?_⟩
        by_cases hjk : j < k
        · exact hP j hjk
        · have : j = k := by omega
          subst this; simp [c1, c2, e']
    · have c1 : ¬ k < l.length := by simpa using c
      simp -dsimp -implicitDefEqProofs (maxSteps := 1000000) (disch := first | omega | (simp only [List.length_append, List.length_cons, List.length_nil]; omega) | (intros; simp only [ne_eq, reduceCtorEq, not_false_eq_true] <;> fail)) only [DL.R, Nat.reduceEqDiff, ↓reduceIte, reduceCtorEq, Int.reduceToNat, Int.reduceLE, Int.reduceLT, Nat.reduceLeDiff, Nat.reduceAdd, Nat.reduceMul, Int.reduceBNe, Int.reduceBEq, Int.cast_ofNat_Int, decide_true, decide_false, ne_eq, eq_self, implies_true, dc34_r0, dc34_r1, dc34_r2, dc34_r3, dc34_r4, dc34_r6, dc34_r7, dc34_r5, dc34_r8, dc34, DL.dI, DL.dB, DL.dS, DL.dI, h0, h1, ht, ints_len]
      have : (l == m) = true := by
        rw [beq_iff_eq]
        apply List.ext_getElem?
        intro j
        by_cases hj : j < k
        · exact hP j hj
        · rw [List.getElem?_eq_none (by omega), List.getElem?_eq_none (by omega)]
      rw [this] at hQ; exact hQ
theorem index_spec (l : List Int) (n : Int) (hb : l.length ≤ 4611686018427387904) (hQ : ∀ r : Int, (0 ≤ r ↔ n ∈ l) → Q (dI r) H) : CallA Tryd.prog G 55 [.sl (ints l), dI n] H Q := by
  refine s55 (Nat.le_of_ble_eq_true rfl) ?_
  simp -dsimp -implicitDefEqProofs (maxSteps := 1000000) (disch := first | omega | (simp only [List.length_append, List.length_cons, List.length_nil]; omega) | (intros; simp only [ne_eq, reduceCtorEq, not_false_eq_true] <;> fail)) only [DL.R, Nat.reduceEqDiff, ↓reduceIte, reduceCtorEq, Int.reduceToNat, Int.reduceLE, Int.reduceLT, Nat.reduceLeDiff, Nat.reduceAdd, Nat.reduceMul, Int.reduceBNe, Int.reduceBEq, Int.cast_ofNat_Int, decide_true, decide_false, ne_eq, eq_self, implies_true, dc55_r0, dc55_r1, dc55_r2, dc55_r3, dc55_r4, dc55_r5, dc55_r6, dc55_r7, dc55, DL.dI, DL.dB, DL.dS, DL.dI, DL.dB, DL.dS, ints_len]
  refine for_i 8 l.length (fun k s' H' => H' = H ∧ s' 0 = .sl (ints l) ∧ s' 1 = dI n ∧ s' 7 = dI l.length ∧ ∀ j, j < k → l[j]? ≠ some n) ?_ ?_ ?_
  · simp -dsimp -implicitDefEqProofs (maxSteps := 1000000) (disch := first | omega | (simp only [List.length_append, List.length_cons, List.length_nil]; omega) | (intros; simp only [ne_eq, reduceCtorEq, not_false_eq_true] <;> fail)) only [DL.R, Nat.reduceEqDiff, ↓reduceIte, reduceCtorEq, Int.reduceToNat, Int.reduceLE, Int.reduceLT, Nat.reduceLeDiff, Nat.reduceAdd, Nat.reduceMul, Int.reduceBNe, Int.reduceBEq, Int.cast_ofNat_Int, decide_true, decide_false, ne_eq, eq_self, implies_true, DL.dI, DL.dB, DL.dS]
  · simp -dsimp -implicitDefEqProofs (maxSteps := 1000000) (disch := first | omega | (simp only [List.length_append, List.length_cons, List.length_nil]; omega) | (intros; simp only [ne_eq, reduceCtorEq, not_false_eq_true] <;> fail)) only [DL.R, Nat.reduceEqDiff, ↓reduceIte, reduceCtorEq, Int.reduceToNat, Int.reduceLE, Int.reduceLT, Nat.reduceLeDiff, Nat.reduceAdd, Nat.reduceMul, Int.reduceBNe, Int.reduceBEq, Int.cast_ofNat_Int, decide_true, decide_false, ne_eq, eq_self, implies_true, DL.dI, DL.dB, DL.dS, DL.dI]
    simp
  · rintro k s' H' hk ht ⟨rfl, h0, h1, h7, hP⟩
    simp -dsimp -implicitDefEqProofs (maxSteps := 1000000) (disch := first | omega | (simp only [List.length_append, List.length_cons, List.length_nil]; omega) | (intros; simp only [ne_eq, reduceCtorEq, not_false_eq_true] <;> fail)) only [DL.R, Nat.reduceEqDiff, ↓reduceIte, reduceCtorEq, Int.reduceToNat, Int.reduceLE, Int.reduceLT, Nat.reduceLeDiff, Nat.reduceAdd, Nat.reduceMul, Int.reduceBNe, Int.reduceBEq, Int.cast_ofNat_Int, decide_true, decide_false, ne_eq, eq_self, implies_true, dc55_r0, dc55_r1, dc55_r2, dc55_r3, dc55_r4, dc55_r5, dc55_r6, dc55_r7, dc55, DL.dI, DL.dB, DL.dS, DL.dI, h0, h1, h7, ht, ints_len]
    refine onB_i (fun c => ?_) (fun c => ?_)
    · have c' : k < l.length := by simpa using c
      simp -dsimp -implicitDefEqProofs (maxSteps := 1000000) (disch := first | omega | (simp only [List.length_append, List.length_cons, List.length_nil]; omega) | (intros; simp only [ne_eq, reduceCtorEq, not_false_eq_true] <;> fail)) only [DL.R, Nat.reduceEqDiff, ↓reduceIte, reduceCtorEq, Int.reduceToNat, Int.reduceLE, Int.reduceLT, Nat.reduceLeDiff, Nat.reduceAdd, Nat.reduceMul, Int.reduceBNe, Int.reduceBEq, Int.cast_ofNat_Int, decide_true, decide_false, ne_eq, eq_self, implies_true, dc55_r0, dc55_r1, dc55_r2, dc55_r3, dc55_r4, dc55_r5, dc55_r6, dc55_r7, dc55, DL.dI, DL.dB, DL.dS, DL.dI, h0, h1, h7, ht, ints_len]
      refine onIdx_i (by omega) (by simpa using ints_get c') ?_
      simp -dsimp -implicitDefEqProofs (maxSteps := 1000000) (disch := first | omega | (simp only [List.length_append, List.length_cons, List.length_nil]; omega) | (intros; simp only [ne_eq, reduceCtorEq, not_false_eq_true] <;> fail)) only [DL.R, Nat.reduceEqDiff, ↓reduceIte, reduceCtorEq, Int.reduceToNat, Int.reduceLE, Int.reduceLT, Nat.reduceLeDiff, Nat.reduceAdd, Nat.reduceMul, Int.reduceBNe, Int.reduceBEq, Int.cast_ofNat_Int, decide_true, decide_false, ne_eq, eq_self, implies_true, dc55_r0, dc55_r1, dc55_r2, dc55_r3, dc55_r4, dc55_r5, dc55_r6, dc55_r7, dc55, DL.dI, DL.dB, DL.dS, DL.dI, h0, h1, h7, ht, ints_len]
      refine onB_i (fun e => ?_) (fun e => ?_)
      · have e' : n = l[k] := by simpa using e
        simp -dsimp -implicitDefEqProofs (maxSteps := 1000000) (disch := first | omega | (simp only [List.length_append, List.length_cons, List.length_nil]; omega) | (intros; simp only [ne_eq, reduceCtorEq, not_false_eq_true] <;> fail)) only [DL.R, Nat.reduceEqDiff, ↓reduceIte, reduceCtorEq, Int.reduceToNat, Int.reduceLE, Int.reduceLT, Nat.reduceLeDiff, Nat.reduceAdd, Nat.reduceMul, Int.reduceBNe, Int.reduceBEq, Int.cast_ofNat_Int, decide_true, decide_false, ne_eq, eq_self, implies_true, dc55_r0, dc55_r1, dc55_r2, dc55_r3, dc55_r4, dc55_r5, dc55_r6, dc55_r7, dc55, DL.dI, DL.dB, DL.dS, DL.dI, h0, h1, h7, ht, ints_len]
        exact hQ k ⟨fun _ => by rw [e']; exact List.getElem_mem _, fun _ => by omega⟩
      · have e' : ¬ n = l[k] := by simpa using e
        simp -dsimp -implicitDefEqProofs (maxSteps := 1000000) (disch := first | omega | (simp only [List.length_append, List.length_cons, List.length_nil]; omega) | (intros; simp only [ne_eq, reduceCtorEq, not_false_eq_true] <;> fail)) only [DL.R, Nat.reduceEqDiff, ↓reduceIte, reduceCtorEq, Int.reduceToNat, Int.reduceLE, Int.reduceLT, Nat.reduceLeDiff, Nat.reduceAdd, Nat.reduceMul, Int.reduceBNe, Int.reduceBEq, Int.cast_ofNat_Int, decide_true, decide_false, ne_eq, eq_self, implies_true, dc55_r0, dc55_r1, dc55_r2, dc55_r3, dc55_r4, dc55_r5, dc55_r6, dc55_r7, dc55, DL.dI, DL.dB, DL.dS, DL.dI, h0, h1, h7, ht, ints_len, DL.wrap_id]
        refine ⟨c', fun j hj => ?_⟩
        by_cases hjk : j < k
        · exact hP j hjk
        · have : j = k := by omega
          subst this; simpa [c'] using fun q : l[j] = n => e' q.symm
    · have c' : ¬ k < l.length := by simpa using c
      simp -dsimp -implicitDefEqProofs (maxSteps := 1000000) (disch := first | omega | (simp only [List.length_append, List.length_cons, List.length_nil]; omega) | (intros; simp only [ne_eq, reduceCtorEq, not_false_eq_true] <;> fail)) only [DL.R, Nat.reduceEqDiff, ↓reduceIte, reduceCtorEq, Int.reduceToNat, Int.reduceLE, Int.reduceLT, Nat.reduceLeDiff, Nat.reduceAdd, Nat.reduceMul, Int.reduceBNe, Int.reduceBEq, Int.cast_ofNat_Int, decide_true, decide_false, ne_eq, eq_self, implies_true, dc55_r0, dc55_r1, dc55_r2, dc55_r3, dc55_r4, dc55_r5, dc55_r6, dc55_r7, dc55, DL.dI, DL.dB, DL.dS, DL.dI, h0, h1, h7, ht, ints_len]
      refine hQ (-1) ⟨fun q => by omega, fun hm => ?_⟩
      obtain ⟨j, hj, e⟩ := List.mem_iff_getElem.1 hm
      exact absurd (by simp [hj, e]) (hP j (by omega))
theorem contains_spec (l : List Int) (n : Int) (hb : l.length ≤ 4611686018427387904) (hQ : Q (dB (l.contains n)) H) : CallA Tryd.prog G 41 [.sl (ints l), dI n] H Q := by
  refine s41 (Nat.le_of_ble_eq_true rfl) ?_
  simp -dsimp -implicitDefEqProofs (maxSteps := 1000000) (disch := first | omega | (simp only [List.length_append, List.length_cons, List.length_nil]; omega) | (intros; simp only [ne_eq, reduceCtorEq, not_false_eq_true] <;> fail)) only [DL.R, Nat.reduceEqDiff, ↓reduceIte, reduceCtorEq, Int.reduceToNat, Int.reduceLE, Int.reduceLT, Nat.reduceLeDiff, Nat.reduceAdd, Nat.reduceMul, Int.reduceBNe, Int.reduceBEq, Int.cast_ofNat_Int, decide_true, decide_false, ne_eq, eq_self, implies_true, dc41_r0, dc41_r1, dc41, DL.dI, DL.dB, DL.dS, DL.dI, DL.dB, DL.dS, ints_len]
  refine index_spec _ _ hb fun r hr => ?_
  simp -dsimp -implicitDefEqProofs (maxSteps := 1000000) (disch := first | omega | (simp only [List.length_append, List.length_cons, List.length_nil]; omega) | (intros; simp only [ne_eq, reduceCtorEq, not_false_eq_true] <;> fail)) only [DL.R, Nat.reduceEqDiff, ↓reduceIte, reduceCtorEq, Int.reduceToNat, Int.reduceLE, Int.reduceLT, Nat.reduceLeDiff, Nat.reduceAdd, Nat.reduceMul, Int.reduceBNe, Int.reduceBEq, Int.cast_ofNat_Int, decide_true, decide_false, ne_eq, eq_self, implies_true, dc41_r0, dc41_r1, dc41, DL.dI, DL.dB, DL.dS, DL.dI]
  have : l.contains n = decide (r ≥ 0) := by
    by_cases h : n ∈ l
    · have := hr.2 h; simp [h, this]
    · have : ¬ r ≥ 0 := fun q => h (hr.1 q)
      simp [h, this]
  rw [this] at hQ; exact hQ
end Go.Proofs.Tryd
set_option maxRecDepth 100000
set_option linter.unusedSimpArgs false
set_option linter.unusedVariables false
namespace Go.Proofs.Tryd
open Go Go.DL
variable {G : Nat → D} {H : List O} {Q : D → List O → Prop}
structure Rule where
  what : ByteArray
  mod : ByteArray
  n : Int
  who : List Int
def ruleL (r : Rule) : List D := [dS r.what, dS r.mod, dI r.n, .sl (ints r.who)]
def ruleD (r : Rule) : D := .agg (ruleL r)
def rulesD (l : List Rule) : List D := l.map ruleD
theorem rules_get {l : List Rule} {k : Nat} (h : k < l.length) : (rulesD l)[k]? = some (ruleD (l[k]'h)) := by simp [rulesD, h]
theorem rules_len (l : List Rule) : (rulesD l).length = l.length := by simp [rulesD]
def appr (a : Int) : List Int → List Int → List Int
  | acc, [] => acc
  | acc, x :: w => appr a (if x = a ∨ x ∈ acc then acc else acc ++ [x]) w
def cnt (a : Int) (w who : List Int) : Nat := ((appr a [] w).filter fun x => who.contains x).length
def enough (l : List Rule) (a : Int) (w : List Int) : Bool := l.all fun r => decide (r.n ≤ cnt a w r.who)
theorem appr_snoc (a x : Int) : ∀ (w acc : List Int), appr a acc (w ++ [x]) = (if x = a ∨ x ∈ appr a acc w then appr a acc w else appr a acc w ++ [x])
  | [], acc => rfl
  | y :: w, acc => appr_snoc a x w _
theorem appr_len (a : Int) : ∀ (w acc : List Int), (appr a acc w).length ≤ acc.length + w.length
  | [], acc => by simp [appr]
  | y :: w, acc => by
    have := appr_len a w (if y = a ∨ y ∈ acc then acc else acc ++ [y])
    simp only [appr, List.length_cons]
    split at this <;> rename_i h
    · rw [if_pos h]; omega
    · rw [if_neg h]; simp at this ⊢; omega
def keysE (l : List Int) : List (Value × D) := l.map fun n => (.int .i64 n, .lit (.bool true))
theorem find_keys (n : Int) : ∀ l : List Int, findE (.int .i64) (.int .i64 n) (keysE l) = l.findIdx? fun m => n == m
  | [] => rfl
  | m :: l => by
    have ih := find_keys n l
    simp only [findE, keysE, List.map_cons, List.findIdx?_cons] at ih ⊢
    rw [ih]
    simp [Instr.sameNow]
theorem put_keys (n : Int) (l : List Int) : putE (.int .i64) (.int .i64 n) (.lit (.bool true)) (keysE l) = keysE (if n ∈ l then l else l ++ [n]) := by
  unfold putE
  rw [find_keys]
  cases h : l.findIdx? fun m => n == m with
  | none =>
    have h' : n ∉ l := by
      rw [List.findIdx?_eq_none_iff] at h
      intro hm; have := h n hm; simp at this
    simp only [h', if_false]
    simp [keysE]
  | some i =>
    obtain ⟨h1, h2, _⟩ := List.findIdx?_eq_some_iff_getElem.1 h
    have h3 : n = l[i] := by simpa using h2
    have h' : n ∈ l := by rw [h3]; exact List.getElem_mem _
    simp only [h', if_true]
    apply List.ext_getElem?
    intro j
    simp only [keysE, List.getElem?_set, List.length_map, List.getElem?_map]
    by_cases hij : i = j
    · subst hij; simp [h1, h3]
    · simp [hij]
theorem keys_ok (l : List Int) : ∀ p ∈ keysE l, MapKept.IsKey (.int .i64) p.1 := by
  intro p hp
  obtain ⟨n, _, rfl⟩ := List.mem_map.1 hp
  rfl
def hp (who : List Int) (p : Value × D) : Bool := match p.1 with
  | .int _ n => who.contains n
  | _ => false
def hit (who : List Int) (es : List (Value × D)) : Nat := (es.filter (hp who)).length
theorem hit_keys (who l : List Int) : hit who (keysE l) = (l.filter fun x => who.contains x).length := by
  unfold hit keysE
  rw [List.filter_map, List.length_map]
  rfl
theorem hit_erase (who : List Int) (p : Value × D) : ∀ (es : List (Value × D)) (i : Nat) (h : i < es.length), es[i]'h = p → hit who es = hit who (es.eraseIdx i) + (if hp who p then 1 else 0)
  | [], i, h, _ => by simp at h
  | e :: es, 0, h, e0 => by
    simp only [List.getElem_cons_zero] at e0
    subst e0
    simp only [hit, List.filter_cons, List.eraseIdx_cons_zero]
    by_cases q : hp who e = true
    · rw [if_pos q, if_pos q]; rfl
    · rw [if_neg q, if_neg q]; rfl
  | e :: es, i + 1, h, e0 => by
    have ih := hit_erase who p es i (by simpa using h) (by simpa using e0)
    simp only [hit, List.filter_cons, List.eraseIdx_cons_succ] at ih ⊢
    by_cases q : hp who e = true
    · rw [if_pos q, if_pos q]; simp only [List.length_cons]; omega
    · rw [if_neg q, if_neg q]; exact ih
theorem enough_spec (l : List Rule) (a : Int) (w : List Int) (hl : l.length ≤ 1099511627776) (hw : w.length ≤ 1099511627776) (hr : ∀ r ∈ l, r.who.length ≤ 1099511627776) (hQ : Q (dB (enough l a w)) H) : CallA Tryd.prog G 22 [.sl (rulesD l), dI a, .sl (ints w)] H Q := by
  refine CallA.drop (s22 (Nat.le_of_ble_eq_true rfl) ?_)
  simp -dsimp -implicitDefEqProofs (maxSteps := 1000000) (disch := first | omega | (simp only [List.length_append, List.length_cons, List.length_nil]; omega) | (intros; simp only [ne_eq, reduceCtorEq, not_false_eq_true] <;> fail)) only [DL.R, Nat.reduceEqDiff, ↓reduceIte, reduceCtorEq, Int.reduceToNat, Int.reduceLE, Int.reduceLT, Nat.reduceLeDiff, Nat.reduceAdd, Nat.reduceMul, Int.reduceBNe, Int.reduceBEq, Int.cast_ofNat_Int, decide_true, decide_false, ne_eq, eq_self, implies_true, dc22_r0, dc22_r1, dc22_r2, dc22_r3, dc22_r4, dc22_r5, dc22_r6, dc22_r7, dc22_r8, dc22_r9, dc22_r10, dc22_r11, dc22_r12, dc22_r13, dc22_r14, dc22_r15, dc22_r16, dc22_r17, dc22_r18, dc22_r19, dc22_r20, dc22, DL.dI, DL.dB, DL.dS, DL.dI, DL.dB, DL.dS, ints_len, rules_len]
  refine for_i 17 w.length (fun k s' H' => (∃ mv, H' = H ++ [.map mv (keysE (appr a [] (w.take k)))]) ∧ s' 0 = .sl (rulesD l) ∧ s' 1 = dI a ∧ s' 15 = .sl (ints w) ∧ s' 16 = dI w.length ∧ s' 7 = .mp H.length) ?_ ?_ ?_
  · simp -dsimp -implicitDefEqProofs (maxSteps := 1000000) (disch := first | omega | (simp only [List.length_append, List.length_cons, List.length_nil]; omega) | (intros; simp only [ne_eq, reduceCtorEq, not_false_eq_true] <;> fail)) only [DL.R, Nat.reduceEqDiff, ↓reduceIte, reduceCtorEq, Int.reduceToNat, Int.reduceLE, Int.reduceLT, Nat.reduceLeDiff, Nat.reduceAdd, Nat.reduceMul, Int.reduceBNe, Int.reduceBEq, Int.cast_ofNat_Int, decide_true, decide_false, ne_eq, eq_self, implies_true, DL.dI, DL.dB, DL.dS]
  · simp -dsimp -implicitDefEqProofs (maxSteps := 1000000) (disch := first | omega | (simp only [List.length_append, List.length_cons, List.length_nil]; omega) | (intros; simp only [ne_eq, reduceCtorEq, not_false_eq_true] <;> fail)) only [DL.R, Nat.reduceEqDiff, ↓reduceIte, reduceCtorEq, Int.reduceToNat, Int.reduceLE, Int.reduceLT, Nat.reduceLeDiff, Nat.reduceAdd, Nat.reduceMul, Int.reduceBNe, Int.reduceBEq, Int.cast_ofNat_Int, decide_true, decide_false, ne_eq, eq_self, implies_true, DL.dI, DL.dB, DL.dS, DL.dI]
    exact ⟨0, rfl⟩
  · rintro k s' H' hk ht ⟨⟨mv, rfl⟩, h0, h1, h15, h16, h7⟩
    simp -dsimp -implicitDefEqProofs (maxSteps := 1000000) (disch := first | omega | (simp only [List.length_append, List.length_cons, List.length_nil]; omega) | (intros; simp only [ne_eq, reduceCtorEq, not_false_eq_true] <;> fail)) only [DL.R, Nat.reduceEqDiff, ↓reduceIte, reduceCtorEq, Int.reduceToNat, Int.reduceLE, Int.reduceLT, Nat.reduceLeDiff, Nat.reduceAdd, Nat.reduceMul, Int.reduceBNe, Int.reduceBEq, Int.cast_ofNat_Int, decide_true, decide_false, ne_eq, eq_self, implies_true, dc22_r0, dc22_r1, dc22_r2, dc22_r3, dc22_r4, dc22_r5, dc22_r6, dc22_r7, dc22_r8, dc22_r9, dc22_r10, dc22_r11, dc22_r12, dc22_r13, dc22_r14, dc22_r15, dc22_r16, dc22_r17, dc22_r18, dc22_r19, dc22_r20, dc22, DL.dI, DL.dB, DL.dS, DL.dI, h0, h1, h15, h16, h7, ht, ints_len]
    refine onB_i (fun c => ?_) (fun c => ?_)
    · have c' : k < w.length := by simpa using c
      have htake : w.take (k + 1) = w.take k ++ [w[k]] := by rw [List.take_succ_eq_append_getElem c']
      simp -dsimp -implicitDefEqProofs (maxSteps := 1000000) (disch := first | omega | (simp only [List.length_append, List.length_cons, List.length_nil]; omega) | (intros; simp only [ne_eq, reduceCtorEq, not_false_eq_true] <;> fail)) only [DL.R, Nat.reduceEqDiff, ↓reduceIte, reduceCtorEq, Int.reduceToNat, Int.reduceLE, Int.reduceLT, Nat.reduceLeDiff, Nat.reduceAdd, Nat.reduceMul, Int.reduceBNe, Int.reduceBEq, Int.cast_ofNat_Int, decide_true, decide_false, ne_eq, eq_self, implies_true, dc22_r0, dc22_r1, dc22_r2, dc22_r3, dc22_r4, dc22_r5, dc22_r6, dc22_r7, dc22_r8, dc22_r9, dc22_r10, dc22_r11, dc22_r12, dc22_r13, dc22_r14, dc22_r15, dc22_r16, dc22_r17, dc22_r18, dc22_r19, dc22_r20, dc22, DL.dI, DL.dB, DL.dS, DL.dI, h0, h1, h15, h16, h7, ht, ints_len]
      refine onIdx_i (by omega) (by simpa using ints_get c') ?_
      simp -dsimp -implicitDefEqProofs (maxSteps := 1000000) (disch := first | omega | (simp only [List.length_append, List.length_cons, List.length_nil]; omega) | (intros; simp only [ne_eq, reduceCtorEq, not_false_eq_true] <;> fail)) only [DL.R, Nat.reduceEqDiff, ↓reduceIte, reduceCtorEq, Int.reduceToNat, Int.reduceLE, Int.reduceLT, Nat.reduceLeDiff, Nat.reduceAdd, Nat.reduceMul, Int.reduceBNe, Int.reduceBEq, Int.cast_ofNat_Int, decide_true, decide_false, ne_eq, eq_self, implies_true, dc22_r0, dc22_r1, dc22_r2, dc22_r3, dc22_r4, dc22_r5, dc22_r6, dc22_r7, dc22_r8, dc22_r9, dc22_r10, dc22_r11, dc22_r12, dc22_r13, dc22_r14, dc22_r15, dc22_r16, dc22_r17, dc22_r18, dc22_r19, dc22_r20, dc22, DL.dI, DL.dB, DL.dS, DL.dI, h0, h1, h15, h16, h7, ht, ints_len]
      refine onB_i (fun e => ?_) (fun e => ?_)
      · have e' : ¬ w[k] = a := by simpa using e
        simp -dsimp -implicitDefEqProofs (maxSteps := 1000000) (disch := first | omega | (simp only [List.length_append, List.length_cons, List.length_nil]; omega) | (intros; simp only [ne_eq, reduceCtorEq, not_false_eq_true] <;> fail)) only [DL.R, Nat.reduceEqDiff, ↓reduceIte, reduceCtorEq, Int.reduceToNat, Int.reduceLE, Int.reduceLT, Nat.reduceLeDiff, Nat.reduceAdd, Nat.reduceMul, Int.reduceBNe, Int.reduceBEq, Int.cast_ofNat_Int, decide_true, decide_false, ne_eq, eq_self, implies_true, dc22_r0, dc22_r1, dc22_r2, dc22_r3, dc22_r4, dc22_r5, dc22_r6, dc22_r7, dc22_r8, dc22_r9, dc22_r10, dc22_r11, dc22_r12, dc22_r13, dc22_r14, dc22_r15, dc22_r16, dc22_r17, dc22_r18, dc22_r19, dc22_r20, dc22, DL.dI, DL.dB, DL.dS, DL.dI, h0, h1, h15, h16, h7, ht, ints_len, put_keys, DL.wrap_id]
        refine ⟨rfl, keys_ok _, c', ⟨mv + 1, ?_⟩⟩
        rw [htake, appr_snoc]
        simp [e']
      · have e' : w[k] = a := by simpa using e
        simp -dsimp -implicitDefEqProofs (maxSteps := 1000000) (disch := first | omega | (simp only [List.length_append, List.length_cons, List.length_nil]; omega) | (intros; simp only [ne_eq, reduceCtorEq, not_false_eq_true] <;> fail)) only [DL.R, Nat.reduceEqDiff, ↓reduceIte, reduceCtorEq, Int.reduceToNat, Int.reduceLE, Int.reduceLT, Nat.reduceLeDiff, Nat.reduceAdd, Nat.reduceMul, Int.reduceBNe, Int.reduceBEq, Int.cast_ofNat_Int, decide_true, decide_false, ne_eq, eq_self, implies_true, dc22_r0, dc22_r1, dc22_r2, dc22_r3, dc22_r4, dc22_r5, dc22_r6, dc22_r7, dc22_r8, dc22_r9, dc22_r10, dc22_r11, dc22_r12, dc22_r13, dc22_r14, dc22_r15, dc22_r16, dc22_r17, dc22_r18, dc22_r19, dc22_r20, dc22, DL.dI, DL.dB, DL.dS, DL.dI, h0, h1, h15, h16, h7, ht, ints_len, DL.wrap_id]
        refine ⟨c', mv, ?_⟩
        rw [htake, appr_snoc]
        simp [e']
    · have c' : w.take k = w := List.take_of_length_le (by simp at c; omega)
      rw [c']
      simp -dsimp -implicitDefEqProofs (maxSteps := 1000000) (disch := first | omega | (simp only [List.length_append, List.length_cons, List.length_nil]; omega) | (intros; simp only [ne_eq, reduceCtorEq, not_false_eq_true] <;> fail)) only [DL.R, Nat.reduceEqDiff, ↓reduceIte, reduceCtorEq, Int.reduceToNat, Int.reduceLE, Int.reduceLT, Nat.reduceLeDiff, Nat.reduceAdd, Nat.reduceMul, Int.reduceBNe, Int.reduceBEq, Int.cast_ofNat_Int, decide_true, decide_false, ne_eq, eq_self, implies_true, dc22_r0, dc22_r1, dc22_r2, dc22_r3, dc22_r4, dc22_r5, dc22_r6, dc22_r7, dc22_r8, dc22_r9, dc22_r10, dc22_r11, dc22_r12, dc22_r13, dc22_r14, dc22_r15, dc22_r16, dc22_r17, dc22_r18, dc22_r19, dc22_r20, dc22, DL.dI, DL.dB, DL.dS, DL.dI, h0, h1, h15, h16, h7, ht, ints_len, rules_len]
      refine for_i 29 l.length (fun k s' H' => (∃ mv Gs, H' = H ++ (.map mv (keysE (appr a [] w)) :: Gs)) ∧ s' 1 = dI a ∧ s' 27 = .sl (rulesD l) ∧ s' 28 = dI l.length ∧ s' 7 = .mp H.length ∧ ∀ j, j < k → ∀ h : j < l.length, (l[j]'h).n ≤ cnt a w (l[j]'h).who) ?_ ?_ ?_
      · simp -dsimp -implicitDefEqProofs (maxSteps := 1000000) (disch := first | omega | (simp only [List.length_append, List.length_cons, List.length_nil]; omega) | (intros; simp only [ne_eq, reduceCtorEq, not_false_eq_true] <;> fail)) only [DL.R, Nat.reduceEqDiff, ↓reduceIte, reduceCtorEq, Int.reduceToNat, Int.reduceLE, Int.reduceLT, Nat.reduceLeDiff, Nat.reduceAdd, Nat.reduceMul, Int.reduceBNe, Int.reduceBEq, Int.cast_ofNat_Int, decide_true, decide_false, ne_eq, eq_self, implies_true, DL.dI, DL.dB, DL.dS]
      · simp -dsimp -implicitDefEqProofs (maxSteps := 1000000) (disch := first | omega | (simp only [List.length_append, List.length_cons, List.length_nil]; omega) | (intros; simp only [ne_eq, reduceCtorEq, not_false_eq_true] <;> fail)) only [DL.R, Nat.reduceEqDiff, ↓reduceIte, reduceCtorEq, Int.reduceToNat, Int.reduceLE, Int.reduceLT, Nat.reduceLeDiff, Nat.reduceAdd, Nat.reduceMul, Int.reduceBNe, Int.reduceBEq, Int.cast_ofNat_Int, decide_true, decide_false, ne_eq, eq_self, implies_true, DL.dI, DL.dB, DL.dS, DL.dI, h7, h1]
        exact ⟨⟨mv, [], rfl⟩, fun j hj => by omega⟩
      · rintro k s' H' hk ht ⟨⟨mv, Gs, rfl⟩, h1, h27, h28, h7, hP⟩
        simp -dsimp -implicitDefEqProofs (maxSteps := 1000000) (disch := first | omega | (simp only [List.length_append, List.length_cons, List.length_nil]; omega) | (intros; simp only [ne_eq, reduceCtorEq, not_false_eq_true] <;> fail)) only [DL.R, Nat.reduceEqDiff, ↓reduceIte, reduceCtorEq, Int.reduceToNat, Int.reduceLE, Int.reduceLT, Nat.reduceLeDiff, Nat.reduceAdd, Nat.reduceMul, Int.reduceBNe, Int.reduceBEq, Int.cast_ofNat_Int, decide_true, decide_false, ne_eq, eq_self, implies_true, dc22_r0, dc22_r1, dc22_r2, dc22_r3, dc22_r4, dc22_r5, dc22_r6, dc22_r7, dc22_r8, dc22_r9, dc22_r10, dc22_r11, dc22_r12, dc22_r13, dc22_r14, dc22_r15, dc22_r16, dc22_r17, dc22_r18, dc22_r19, dc22_r20, dc22, DL.dI, DL.dB, DL.dS, DL.dI, h1, h27, h28, h7, ht, rules_len]
        refine onB_i (fun c => ?_) (fun c => ?_)
        · have c' : k < l.length := by simpa using c
          simp -dsimp -implicitDefEqProofs (maxSteps := 1000000) (disch := first | omega | (simp only [List.length_append, List.length_cons, List.length_nil]; omega) | (intros; simp only [ne_eq, reduceCtorEq, not_false_eq_true] <;> fail)) only [DL.R, Nat.reduceEqDiff, ↓reduceIte, reduceCtorEq, Int.reduceToNat, Int.reduceLE, Int.reduceLT, Nat.reduceLeDiff, Nat.reduceAdd, Nat.reduceMul, Int.reduceBNe, Int.reduceBEq, Int.cast_ofNat_Int, decide_true, decide_false, ne_eq, eq_self, implies_true, dc22_r0, dc22_r1, dc22_r2, dc22_r3, dc22_r4, dc22_r5, dc22_r6, dc22_r7, dc22_r8, dc22_r9, dc22_r10, dc22_r11, dc22_r12, dc22_r13, dc22_r14, dc22_r15, dc22_r16, dc22_r17, dc22_r18, dc22_r19, dc22_r20, dc22, DL.dI, DL.dB, DL.dS, DL.dI, h1, h27, h28, h7, ht, rules_len]
          refine onIdx_i (by omega) (by simpa using rules_get c') ?_
          generalize hrr : l[k] = r
          obtain ⟨rw, rm, rn, rwho⟩ := r
          simp -dsimp -implicitDefEqProofs (maxSteps := 1000000) (disch := first | omega | (simp only [List.length_append, List.length_cons, List.length_nil]; omega) | (intros; simp only [ne_eq, reduceCtorEq, not_false_eq_true] <;> fail)) only [DL.R, Nat.reduceEqDiff, ↓reduceIte, reduceCtorEq, Int.reduceToNat, Int.reduceLE, Int.reduceLT, Nat.reduceLeDiff, Nat.reduceAdd, Nat.reduceMul, Int.reduceBNe, Int.reduceBEq, Int.cast_ofNat_Int, decide_true, decide_false, ne_eq, eq_self, implies_true, dc22_r0, dc22_r1, dc22_r2, dc22_r3, dc22_r4, dc22_r5, dc22_r6, dc22_r7, dc22_r8, dc22_r9, dc22_r10, dc22_r11, dc22_r12, dc22_r13, dc22_r14, dc22_r15, dc22_r16, dc22_r17, dc22_r18, dc22_r19, dc22_r20, dc22, DL.dI, DL.dB, DL.dS, DL.dI, DL.dS, h1, h27, h28, h7, ht, rules_len, ruleD, ruleL]
          have hwho : rwho.length ≤ 1099511627776 := by have := hr _ (List.getElem_mem c'); rw [hrr] at this; exact this
          have happ := appr_len a w []
          simp only [List.length_nil, Nat.zero_add] at happ
          refine loop_i (fun s'' H'' => ∃ left cur, ∃ c : Nat, H'' = H ++ (.map mv (keysE (appr a [] w)) :: (Gs ++ [.box 42 [dS rw, dS rm, dI rn, .sl (ints rwho)], .iter H.length mv left cur])) ∧ s'' 1 = dI a ∧ s'' 27 = .sl (rulesD l) ∧ s'' 28 = dI l.length ∧ s'' 7 = .mp H.length ∧
              s'' 29 = dI k ∧ s'' 11 = .ptr (H.length + (Gs.length + 1)) 0 ∧ s'' 34 = .it (H.length + (Gs.length + 1 + 1)) ∧ s'' 12 = dI c ∧ c + hit rwho left = cnt a w rwho ∧ c + left.length ≤ 1099511627776 ∧ ∀ p ∈ left, ∃ n, p.1 = .int .i64 n)
            (fun _ H'' => match H''[H.length + (Gs.length + 1 + 1)]? with | some (.iter _ _ left _) => left.length | _ => 0) ?_ ?_
          · refine ⟨keysE (appr a [] w), none, 0, ?_⟩
            simp -dsimp -implicitDefEqProofs (maxSteps := 1000000) (disch := first | omega | (simp only [List.length_append, List.length_cons, List.length_nil]; omega) | (intros; simp only [ne_eq, reduceCtorEq, not_false_eq_true] <;> fail)) only [DL.R, Nat.reduceEqDiff, ↓reduceIte, reduceCtorEq, Int.reduceToNat, Int.reduceLE, Int.reduceLT, Nat.reduceLeDiff, Nat.reduceAdd, Nat.reduceMul, Int.reduceBNe, Int.reduceBEq, Int.cast_ofNat_Int, decide_true, decide_false, ne_eq, eq_self, implies_true, dc22_r0, dc22_r1, dc22_r2, dc22_r3, dc22_r4, dc22_r5, dc22_r6, dc22_r7, dc22_r8, dc22_r9, dc22_r10, dc22_r11, dc22_r12, dc22_r13, dc22_r14, dc22_r15, dc22_r16, dc22_r17, dc22_r18, dc22_r19, dc22_r20, dc22, DL.dI, DL.dB, DL.dS, DL.dI, DL.dS, h1, h27, h28, h7, ht, rules_len]
            refine ⟨?_, by simp [keysE]; omega, fun p hp => ?_⟩
            · rw [hit_keys]; simp [cnt]
            · obtain ⟨n, _, rfl⟩ := List.mem_map.1 hp
              exact ⟨n, rfl⟩
          · rintro s'' H'' ⟨left, cur, cc, rfl, g1, g27, g28, g7, g29, g11, g34, g12, gc, gb, gk⟩
            simp -dsimp -implicitDefEqProofs (maxSteps := 1000000) (disch := first | omega | (simp only [List.length_append, List.length_cons, List.length_nil]; omega) | (intros; simp only [ne_eq, reduceCtorEq, not_false_eq_true] <;> fail)) only [DL.R, Nat.reduceEqDiff, ↓reduceIte, reduceCtorEq, Int.reduceToNat, Int.reduceLE, Int.reduceLT, Nat.reduceLeDiff, Nat.reduceAdd, Nat.reduceMul, Int.reduceBNe, Int.reduceBEq, Int.cast_ofNat_Int, decide_true, decide_false, ne_eq, eq_self, implies_true, dc22_r0, dc22_r1, dc22_r2, dc22_r3, dc22_r4, dc22_r5, dc22_r6, dc22_r7, dc22_r8, dc22_r9, dc22_r10, dc22_r11, dc22_r12, dc22_r13, dc22_r14, dc22_r15, dc22_r16, dc22_r17, dc22_r18, dc22_r19, dc22_r20, dc22, DL.dI, DL.dB, DL.dS, DL.dI, DL.dS, g1, g27, g28, g7, g29, g11, g34, g12]
            refine step_i (fun hl0 => ?_) (fun i hi => ?_)
            · subst hl0
              have gc' : cc = cnt a w rwho := by simpa [hit] using gc
              simp -dsimp -implicitDefEqProofs (maxSteps := 1000000) (disch := first | omega | (simp only [List.length_append, List.length_cons, List.length_nil]; omega) | (intros; simp only [ne_eq, reduceCtorEq, not_false_eq_true] <;> fail)) only [DL.R, Nat.reduceEqDiff, ↓reduceIte, reduceCtorEq, Int.reduceToNat, Int.reduceLE, Int.reduceLT, Nat.reduceLeDiff, Nat.reduceAdd, Nat.reduceMul, Int.reduceBNe, Int.reduceBEq, Int.cast_ofNat_Int, decide_true, decide_false, ne_eq, eq_self, implies_true, dc22_r0, dc22_r1, dc22_r2, dc22_r3, dc22_r4, dc22_r5, dc22_r6, dc22_r7, dc22_r8, dc22_r9, dc22_r10, dc22_r11, dc22_r12, dc22_r13, dc22_r14, dc22_r15, dc22_r16, dc22_r17, dc22_r18, dc22_r19, dc22_r20, dc22, DL.dI, DL.dB, DL.dS, DL.dI, DL.dS, g1, g27, g28, g7, g29, g11, g34, g12]
              refine onB_i (fun e => ?_) (fun e => ?_)
              · have e' : (cc : Int) < rn := by simpa using e
                simp -dsimp -implicitDefEqProofs (maxSteps := 1000000) (disch := first | omega | (simp only [List.length_append, List.length_cons, List.length_nil]; omega) | (intros; simp only [ne_eq, reduceCtorEq, not_false_eq_true] <;> fail)) only [DL.R, Nat.reduceEqDiff, ↓reduceIte, reduceCtorEq, Int.reduceToNat, Int.reduceLE, Int.reduceLT, Nat.reduceLeDiff, Nat.reduceAdd, Nat.reduceMul, Int.reduceBNe, Int.reduceBEq, Int.cast_ofNat_Int, decide_true, decide_false, ne_eq, eq_self, implies_true, dc22_r0, dc22_r1, dc22_r2, dc22_r3, dc22_r4, dc22_r5, dc22_r6, dc22_r7, dc22_r8, dc22_r9, dc22_r10, dc22_r11, dc22_r12, dc22_r13, dc22_r14, dc22_r15, dc22_r16, dc22_r17, dc22_r18, dc22_r19, dc22_r20, dc22, DL.dI, DL.dB, DL.dS, DL.dI, DL.dS, g1, g27, g28, g7, g29, g11, g34, g12]
                refine ⟨_, rfl, .lit _, ?_⟩
                have : enough l a w = false := by
                  rw [← Bool.not_eq_true, enough, List.all_eq_true]
                  intro q
                  have := q _ (List.getElem_mem c')
                  rw [hrr] at this
                  simp at this; omega
                rw [this] at hQ; exact hQ
              · have e' : ¬ (cc : Int) < rn := by simpa using e
                simp -dsimp -implicitDefEqProofs (maxSteps := 1000000) (disch := first | omega | (simp only [List.length_append, List.length_cons, List.length_nil]; omega) | (intros; simp only [ne_eq, reduceCtorEq, not_false_eq_true] <;> fail)) only [DL.R, Nat.reduceEqDiff, ↓reduceIte, reduceCtorEq, Int.reduceToNat, Int.reduceLE, Int.reduceLT, Nat.reduceLeDiff, Nat.reduceAdd, Nat.reduceMul, Int.reduceBNe, Int.reduceBEq, Int.cast_ofNat_Int, decide_true, decide_false, ne_eq, eq_self, implies_true, dc22_r0, dc22_r1, dc22_r2, dc22_r3, dc22_r4, dc22_r5, dc22_r6, dc22_r7, dc22_r8, dc22_r9, dc22_r10, dc22_r11, dc22_r12, dc22_r13, dc22_r14, dc22_r15, dc22_r16, dc22_r17, dc22_r18, dc22_r19, dc22_r20, dc22, DL.dI, DL.dB, DL.dS, DL.dI, DL.dS, g1, g27, g28, g7, g29, g11, g34, g12, DL.wrap_id]
                refine ⟨c', ⟨mv, _, rfl⟩, fun j hj hjl => ?_⟩
                by_cases hjk : j < k
                · exact hP j hjk hjl
                · have : j = k := by omega
                  subst this; rw [hrr]; simp; omega
            · have he := hit_erase rwho (left[i]) left i hi rfl
              have hlen := List.length_eraseIdx_of_lt hi
              have hmem : ∀ p ∈ left.eraseIdx i, ∃ n, p.1 = .int .i64 n := fun p hp => gk p (List.mem_of_mem_eraseIdx hp)
              obtain ⟨n, hn⟩ := gk (left[i]) (List.getElem_mem hi)
              generalize left[i] = p at he hn
              obtain ⟨pk, pd⟩ := p
              simp only at hn
              subst hn
              have hg : Gs.length + 1 < (Gs ++ [O.box 42 [dS rw, dS rm, dI rn, .sl (ints rwho)], O.iter H.length mv left cur]).length := by simp
              have hset : (Gs ++ [O.box 42 [D.lit (.string rw), D.lit (.string rm), D.lit (.int .i64 rn), .sl (ints rwho)], O.iter H.length mv left cur]).set (Gs.length + 1) (O.iter H.length mv (left.eraseIdx i) (some (.int .i64 n, pd))) = Gs ++ [O.box 42 [D.lit (.string rw), D.lit (.string rm), D.lit (.int .i64 rn), .sl (ints rwho)], O.iter H.length mv (left.eraseIdx i) (some (.int .i64 n, pd))] := by
                rw [set_own]; rfl
              simp -dsimp -implicitDefEqProofs (maxSteps := 1000000) (disch := first | omega | (simp only [List.length_append, List.length_cons, List.length_nil]; omega) | (intros; simp only [ne_eq, reduceCtorEq, not_false_eq_true] <;> fail)) only [DL.R, Nat.reduceEqDiff, ↓reduceIte, reduceCtorEq, Int.reduceToNat, Int.reduceLE, Int.reduceLT, Nat.reduceLeDiff, Nat.reduceAdd, Nat.reduceMul, Int.reduceBNe, Int.reduceBEq, Int.cast_ofNat_Int, decide_true, decide_false, ne_eq, eq_self, implies_true, dc22_r0, dc22_r1, dc22_r2, dc22_r3, dc22_r4, dc22_r5, dc22_r6, dc22_r7, dc22_r8, dc22_r9, dc22_r10, dc22_r11, dc22_r12, dc22_r13, dc22_r14, dc22_r15, dc22_r16, dc22_r17, dc22_r18, dc22_r19, dc22_r20, dc22, DL.dI, DL.dB, DL.dS, DL.dI, DL.dS, g1, g27, g28, g7, g29, g11, g34, g12, hset]
              refine contains_spec _ _ (by omega) ?_
              simp -dsimp -implicitDefEqProofs (maxSteps := 1000000) (disch := first | omega | (simp only [List.length_append, List.length_cons, List.length_nil]; omega) | (intros; simp only [ne_eq, reduceCtorEq, not_false_eq_true] <;> fail)) only [DL.R, Nat.reduceEqDiff, ↓reduceIte, reduceCtorEq, Int.reduceToNat, Int.reduceLE, Int.reduceLT, Nat.reduceLeDiff, Nat.reduceAdd, Nat.reduceMul, Int.reduceBNe, Int.reduceBEq, Int.cast_ofNat_Int, decide_true, decide_false, ne_eq, eq_self, implies_true, dc22_r0, dc22_r1, dc22_r2, dc22_r3, dc22_r4, dc22_r5, dc22_r6, dc22_r7, dc22_r8, dc22_r9, dc22_r10, dc22_r11, dc22_r12, dc22_r13, dc22_r14, dc22_r15, dc22_r16, dc22_r17, dc22_r18, dc22_r19, dc22_r20, dc22, DL.dI, DL.dB, DL.dS, DL.dI, DL.dS, DL.dB, g1, g27, g28, g7, g29, g11, g34, g12]
              refine onB_i (fun e => ?_) (fun e => ?_)
              · have e' : hp rwho (.int .i64 n, pd) = true := e
                rw [if_pos e'] at he
                simp -dsimp -implicitDefEqProofs (maxSteps := 1000000) (disch := first | omega | (simp only [List.length_append, List.length_cons, List.length_nil]; omega) | (intros; simp only [ne_eq, reduceCtorEq, not_false_eq_true] <;> fail)) only [DL.R, Nat.reduceEqDiff, ↓reduceIte, reduceCtorEq, Int.reduceToNat, Int.reduceLE, Int.reduceLT, Nat.reduceLeDiff, Nat.reduceAdd, Nat.reduceMul, Int.reduceBNe, Int.reduceBEq, Int.cast_ofNat_Int, decide_true, decide_false, ne_eq, eq_self, implies_true, dc22_r0, dc22_r1, dc22_r2, dc22_r3, dc22_r4, dc22_r5, dc22_r6, dc22_r7, dc22_r8, dc22_r9, dc22_r10, dc22_r11, dc22_r12, dc22_r13, dc22_r14, dc22_r15, dc22_r16, dc22_r17, dc22_r18, dc22_r19, dc22_r20, dc22, DL.dI, DL.dB, DL.dS, DL.dI, DL.dS, DL.dB, g1, g27, g28, g7, g29, g11, g34, g12, DL.wrap_id]
                refine ⟨⟨left.eraseIdx i, _, cc + 1, rfl, by simp, by omega, by omega, hmem⟩, by omega⟩
              · have e' : ¬ hp rwho (.int .i64 n, pd) = true := by rw [Bool.not_eq_true]; exact e
                rw [if_neg e'] at he
                simp -dsimp -implicitDefEqProofs (maxSteps := 1000000) (disch := first | omega | (simp only [List.length_append, List.length_cons, List.length_nil]; omega) | (intros; simp only [ne_eq, reduceCtorEq, not_false_eq_true] <;> fail)) only [DL.R, Nat.reduceEqDiff, ↓reduceIte, reduceCtorEq, Int.reduceToNat, Int.reduceLE, Int.reduceLT, Nat.reduceLeDiff, Nat.reduceAdd, Nat.reduceMul, Int.reduceBNe, Int.reduceBEq, Int.cast_ofNat_Int, decide_true, decide_false, ne_eq, eq_self, implies_true, dc22_r0, dc22_r1, dc22_r2, dc22_r3, dc22_r4, dc22_r5, dc22_r6, dc22_r7, dc22_r8, dc22_r9, dc22_r10, dc22_r11, dc22_r12, dc22_r13, dc22_r14, dc22_r15, dc22_r16, dc22_r17, dc22_r18, dc22_r19, dc22_r20, dc22, DL.dI, DL.dB, DL.dS, DL.dI, DL.dS, DL.dB, g1, g27, g28, g7, g29, g11, g34, g12, DL.wrap_id]
                refine ⟨⟨left.eraseIdx i, _, cc, rfl, rfl, by omega, by omega, hmem⟩, by omega⟩
        · have c' : ¬ k < l.length := by simpa using c
          simp -dsimp -implicitDefEqProofs (maxSteps := 1000000) (disch := first | omega | (simp only [List.length_append, List.length_cons, List.length_nil]; omega) | (intros; simp only [ne_eq, reduceCtorEq, not_false_eq_true] <;> fail)) only [DL.R, Nat.reduceEqDiff, ↓reduceIte, reduceCtorEq, Int.reduceToNat, Int.reduceLE, Int.reduceLT, Nat.reduceLeDiff, Nat.reduceAdd, Nat.reduceMul, Int.reduceBNe, Int.reduceBEq, Int.cast_ofNat_Int, decide_true, decide_false, ne_eq, eq_self, implies_true, dc22_r0, dc22_r1, dc22_r2, dc22_r3, dc22_r4, dc22_r5, dc22_r6, dc22_r7, dc22_r8, dc22_r9, dc22_r10, dc22_r11, dc22_r12, dc22_r13, dc22_r14, dc22_r15, dc22_r16, dc22_r17, dc22_r18, dc22_r19, dc22_r20, dc22, DL.dI, DL.dB, DL.dS, DL.dI, h1, h27, h28, h7, ht, rules_len]
          refine ⟨_, rfl, .lit _, ?_⟩
          have : enough l a w = true := by
            rw [enough, List.all_eq_true]
            intro r hm
            obtain ⟨j, hj, rfl⟩ := List.mem_iff_getElem.1 hm
            simpa using hP j (by omega) hj
          rw [this] at hQ; exact hQ
end Go.Proofs.Tryd
