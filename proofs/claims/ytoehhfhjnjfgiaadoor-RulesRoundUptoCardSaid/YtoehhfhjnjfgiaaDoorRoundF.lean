/- Part of a proof of the statement Round; what it needs in which order stands in GOCLAIM.json. -/
import Derived.Test.YtoehhfhjnjfgiaaDoorRoundE
set_option maxRecDepth 100000
set_option linter.unusedSimpArgs false
set_option linter.unusedVariables false
namespace Go.Proofs.Tryd
open Go Go.DL
variable {G : Nat → D} {H : List O} {Q : D → List O → Prop}
def kindsL : List (List UInt8) := [[109, 97, 107, 101], [109, 97, 107, 101], [109, 97, 107, 101], [116, 121, 112, 101], [98, 111, 100, 121], [110, 97, 109, 101], [109, 111, 118, 101], [109, 111, 118, 101], [109, 97, 107, 101], [116, 121, 112, 101], [116, 121, 112, 101], [98, 111, 100, 121], [98, 111, 100, 121], [108, 97, 121, 111, 117, 116]]
structure Env (G : Nat → D) : Prop where
  kinds : G 0 = .el (strs kindsL)
  kw : G 1 = .el (strs kwL)
  kindsF : G 2 = kindsD
  signs : G 3 = .el (strs signsL)
  errS : G 6 = .el [.nn] ∨ G 6 = .el [.lit .nilIface]
theorem scan_spec (hE : Env G) (l : List UInt8) (hl : l.length ≤ 1099511627776) (hQ : Q (scanD (scan l)) H) : CallA Tryd.prog G 24 [dS (str l)] H Q := by
  refine CallA.deep (s24 (Nat.le_of_ble_eq_true rfl) ?_)
  by_cases c0 : l.length > 8192
  · have e0 : decide ((l.length : Int) > 8192) = true := by simp; omega
    simp -dsimp -implicitDefEqProofs (maxSteps := 1000000) (disch := first | omega | (simp only [List.length_append, List.length_cons, List.length_nil]; omega) | (intros; simp only [ne_eq, reduceCtorEq, not_false_eq_true] <;> fail)) only [DL.R, Nat.reduceEqDiff, ↓reduceIte, reduceCtorEq, Int.reduceToNat, Int.reduceLE, Int.reduceLT, Nat.reduceLeDiff, Nat.reduceAdd, Nat.reduceMul, Int.reduceBNe, Int.reduceBEq, Int.cast_ofNat_Int, decide_true, decide_false, ne_eq, eq_self, implies_true, dc24_r0, dc24_r1, dc24_r2, dc24_r3, dc24_r4, dc24_r5, dc24_r6, dc24_r7, dc24_r8, dc24_r9, dc24_r10, dc24_r11, dc24_r12, dc24_r13, dc24_r14, dc24, DL.dI, DL.dB, DL.dS, e0]
    exact ⟨[], scanD (scan l), by simp, Deep.tup3 (by simp [scan, c0, toksD]; exact Deep.nil _) (by simp [scan, c0]; exact Deep.refl _ _) (by simp [scan, c0]; exact Deep.refl _ _), below_scan _ _, hQ⟩
  · have e0 : decide ((l.length : Int) > 8192) = false := by simp; omega
    simp -dsimp -implicitDefEqProofs (maxSteps := 1000000) (disch := first | omega | (simp only [List.length_append, List.length_cons, List.length_nil]; omega) | (intros; simp only [ne_eq, reduceCtorEq, not_false_eq_true] <;> fail)) only [DL.R, Nat.reduceEqDiff, ↓reduceIte, reduceCtorEq, Int.reduceToNat, Int.reduceLE, Int.reduceLT, Nat.reduceLeDiff, Nat.reduceAdd, Nat.reduceMul, Int.reduceBNe, Int.reduceBEq, Int.cast_ofNat_Int, decide_true, decide_false, ne_eq, eq_self, implies_true, dc24_r0, dc24_r1, dc24_r2, dc24_r3, dc24_r4, dc24_r5, dc24_r6, dc24_r7, dc24_r8, dc24_r9, dc24_r10, dc24_r11, dc24_r12, dc24_r13, dc24_r14, dc24, DL.dI, DL.dB, DL.dS, e0]
    refine ⟨by omega, ?_⟩
    refine loop_i (fun s' H' => s' 0 = dS (str l) ∧ ∃ (p n ver : Nat) (acc : List Tok), p ≤ l.length ∧ acc.length ≤ p ∧ l.length - p < n ∧ scan l = scanN n (l.drop p) p acc ∧ s' 6 = dI p ∧ s' 5 = .row H.length ver ∧ H' = H ++ [.row true ver 52 2 (toksD acc)]) (fun s' _ => l.length - (s' 6).toN) ?_ ?_
    · simp -dsimp -implicitDefEqProofs (maxSteps := 1000000) (disch := first | omega | (simp only [List.length_append, List.length_cons, List.length_nil]; omega) | (intros; simp only [ne_eq, reduceCtorEq, not_false_eq_true] <;> fail)) only [DL.R, Nat.reduceEqDiff, ↓reduceIte, reduceCtorEq, Int.reduceToNat, Int.reduceLE, Int.reduceLT, Nat.reduceLeDiff, Nat.reduceAdd, Nat.reduceMul, Int.reduceBNe, Int.reduceBEq, Int.cast_ofNat_Int, decide_true, decide_false, ne_eq, eq_self, implies_true, DL.dI, DL.dB, DL.dS]
      exact ⟨0, l.length + 1, 0, [], by omega, by simp, by omega, by simp [scan, c0], rfl, rfl, rfl⟩
    · rintro s' H' ⟨h0, p, n, ver, acc, hp, ha, hn, hS, h6, h5, rfl⟩
      obtain ⟨n, rfl⟩ : ∃ m, n = m + 1 := ⟨n - 1, by omega⟩
      rw [scanN] at hS
      have hble := bl_le false (l.drop p)
      rw [List.length_drop] at hble
      obtain ⟨k, hk⟩ : ∃ k, bl false (l.drop p) = k := ⟨_, rfl⟩
      rw [hk] at hS hble
      rw [List.drop_drop] at hS
      have t1 : (l.drop p).take (l.length - p) = l.drop p := List.take_of_length_le (by simp)
      simp -dsimp -implicitDefEqProofs (maxSteps := 1000000) (disch := first | omega | (simp only [List.length_append, List.length_cons, List.length_nil]; omega) | (intros; simp only [ne_eq, reduceCtorEq, not_false_eq_true] <;> fail)) only [DL.R, Nat.reduceEqDiff, ↓reduceIte, reduceCtorEq, Int.reduceToNat, Int.reduceLE, Int.reduceLT, Nat.reduceLeDiff, Nat.reduceAdd, Nat.reduceMul, Int.reduceBNe, Int.reduceBEq, Int.cast_ofNat_Int, decide_true, decide_false, ne_eq, eq_self, implies_true, dc24_r0, dc24_r1, dc24_r2, dc24_r3, dc24_r4, dc24_r5, dc24_r6, dc24_r7, dc24_r8, dc24_r9, dc24_r10, dc24_r11, dc24_r12, dc24_r13, dc24_r14, dc24, DL.dI, DL.dB, DL.dS, h0, h6, h5, t1]
      refine ⟨by omega, by omega, ?_⟩
      refine blanks_spec (l.drop p) (by simp; omega) ?_
      rw [hk]
      simp -dsimp -implicitDefEqProofs (maxSteps := 1000000) (disch := first | omega | (simp only [List.length_append, List.length_cons, List.length_nil]; omega) | (intros; simp only [ne_eq, reduceCtorEq, not_false_eq_true] <;> fail)) only [DL.R, Nat.reduceEqDiff, ↓reduceIte, reduceCtorEq, Int.reduceToNat, Int.reduceLE, Int.reduceLT, Nat.reduceLeDiff, Nat.reduceAdd, Nat.reduceMul, Int.reduceBNe, Int.reduceBEq, Int.cast_ofNat_Int, decide_true, decide_false, ne_eq, eq_self, implies_true, dc24_r0, dc24_r1, dc24_r2, dc24_r3, dc24_r4, dc24_r5, dc24_r6, dc24_r7, dc24_r8, dc24_r9, dc24_r10, dc24_r11, dc24_r12, dc24_r13, dc24_r14, dc24, DL.dI, DL.dB, DL.dS, h0, h6, h5, DL.wrap_id]
      refine ⟨by omega, by omega, by omega, ?_⟩
      have n1 : ((p : Int) + (k : Int)).toNat - p = k := by omega
      by_cases c1 : p + k = l.length
      · have e1 : (((p : Int) + (k : Int)) == (l.length : Int)) = true := by simp; omega
        have hnil : l.drop (p + k) = [] := List.drop_of_length_le (by omega)
        rw [if_pos hnil] at hS
        simp -dsimp -implicitDefEqProofs (maxSteps := 1000000) (disch := first | omega | (simp only [List.length_append, List.length_cons, List.length_nil]; omega) | (intros; simp only [ne_eq, reduceCtorEq, not_false_eq_true] <;> fail)) only [DL.R, Nat.reduceEqDiff, ↓reduceIte, reduceCtorEq, Int.reduceToNat, Int.reduceLE, Int.reduceLT, Nat.reduceLeDiff, Nat.reduceAdd, Nat.reduceMul, Int.reduceBNe, Int.reduceBEq, Int.cast_ofNat_Int, decide_true, decide_false, ne_eq, eq_self, implies_true, dc24_r0, dc24_r1, dc24_r2, dc24_r3, dc24_r4, dc24_r5, dc24_r6, dc24_r7, dc24_r8, dc24_r9, dc24_r10, dc24_r11, dc24_r12, dc24_r13, dc24_r14, dc24, DL.dI, DL.dB, DL.dS, h0, h6, h5, e1, n1]
        refine ⟨_, scanD (scan l), rfl, ?_, below_scan _ _, hQ⟩
        rw [hS]
        exact Deep.tup3 (Deep.own0 rfl) (Deep.refl _ _) (Deep.refl _ _)
      · have e1 : (((p : Int) + (k : Int)) == (l.length : Int)) = false := by simp; omega
        have hcons : l.drop (p + k) ≠ [] := by simp; omega
        rw [if_neg hcons] at hS
        have t2 : (l.drop (((p : Int) + (k : Int)).toNat)).take (l.length - ((p : Int) + (k : Int)).toNat) = l.drop (p + k) := by
          rw [show ((p : Int) + (k : Int)).toNat = p + k by omega]; exact List.take_of_length_le (by simp)
        simp -dsimp -implicitDefEqProofs (maxSteps := 1000000) (disch := first | omega | (simp only [List.length_append, List.length_cons, List.length_nil]; omega) | (intros; simp only [ne_eq, reduceCtorEq, not_false_eq_true] <;> fail)) only [DL.R, Nat.reduceEqDiff, ↓reduceIte, reduceCtorEq, Int.reduceToNat, Int.reduceLE, Int.reduceLT, Nat.reduceLeDiff, Nat.reduceAdd, Nat.reduceMul, Int.reduceBNe, Int.reduceBEq, Int.cast_ofNat_Int, decide_true, decide_false, ne_eq, eq_self, implies_true, dc24_r0, dc24_r1, dc24_r2, dc24_r3, dc24_r4, dc24_r5, dc24_r6, dc24_r7, dc24_r8, dc24_r9, dc24_r10, dc24_r11, dc24_r12, dc24_r13, dc24_r14, dc24, DL.dI, DL.dB, DL.dS, h0, h6, h5, e1, n1, t2]
        refine ⟨by omega, by omega, ?_⟩
        obtain ⟨b, r, hbr⟩ : ∃ b r, l.drop (p + k) = b :: r := by
          cases hh : l.drop (p + k) with
          | nil => exact absurd hh hcons
          | cons b r => exact ⟨b, r, rfl⟩
        have hrl := congrArg List.length hbr
        simp only [List.length_drop, List.length_cons] at hrl
        rw [hbr]
        refine token_spec b r (by omega) hE.kindsF hE.signs ?_
        rw [← hbr]
        have htk : tok (l.drop (p + k)) ≤ l.length - (p + k) := by
          have := tok_le b r; rw [← hbr, List.length_drop] at this; exact this
        obtain ⟨t, htt⟩ : ∃ t, tok (l.drop (p + k)) = t := ⟨_, rfl⟩
        rw [htt] at hS htk ⊢
        by_cases c2 : t = 0
        · rw [if_pos c2] at hS
          subst c2
          have e2 : decide ((0 : Int) > 0) = false := by simp
          simp -dsimp -implicitDefEqProofs (maxSteps := 1000000) (disch := first | omega | (simp only [List.length_append, List.length_cons, List.length_nil]; omega) | (intros; simp only [ne_eq, reduceCtorEq, not_false_eq_true] <;> fail)) only [DL.R, Nat.reduceEqDiff, ↓reduceIte, reduceCtorEq, Int.reduceToNat, Int.reduceLE, Int.reduceLT, Nat.reduceLeDiff, Nat.reduceAdd, Nat.reduceMul, Int.reduceBNe, Int.reduceBEq, Int.cast_ofNat_Int, decide_true, decide_false, ne_eq, eq_self, implies_true, dc24_r0, dc24_r1, dc24_r2, dc24_r3, dc24_r4, dc24_r5, dc24_r6, dc24_r7, dc24_r8, dc24_r9, dc24_r10, dc24_r11, dc24_r12, dc24_r13, dc24_r14, dc24, DL.dI, DL.dB, DL.dS, h0, h6, h5, n1, e2]
          refine ⟨_, scanD (scan l), rfl, ?_, below_scan _ _, hQ⟩
          rw [hS]
          simp only [scanD, Int.natCast_add]
          exact Deep.tup3 (Deep.nil _) (Deep.refl _ _) (Deep.refl _ _)
        · rw [if_neg c2] at hS
          have e2 : decide ((t : Int) > 0) = true := by simp; omega
          have n2 : ((p : Int) + (k : Int) + (t : Int)).toNat - (p + k) = t := by omega
          have n3 : ((p : Int) + (k : Int)).toNat = p + k := by omega
          have hlen : (toksD acc).length ≤ 8192 := acc_len (n := n) ha (by omega)
          simp -dsimp -implicitDefEqProofs (maxSteps := 1000000) (disch := first | omega | (simp only [List.length_append, List.length_cons, List.length_nil]; omega) | (intros; simp only [ne_eq, reduceCtorEq, not_false_eq_true] <;> fail)) only [DL.R, Nat.reduceEqDiff, ↓reduceIte, reduceCtorEq, Int.reduceToNat, Int.reduceLE, Int.reduceLT, Nat.reduceLeDiff, Nat.reduceAdd, Nat.reduceMul, Int.reduceBNe, Int.reduceBEq, Int.cast_ofNat_Int, decide_true, decide_false, ne_eq, eq_self, implies_true, dc24_r0, dc24_r1, dc24_r2, dc24_r3, dc24_r4, dc24_r5, dc24_r6, dc24_r7, dc24_r8, dc24_r9, dc24_r10, dc24_r11, dc24_r12, dc24_r13, dc24_r14, dc24, DL.dI, DL.dB, DL.dS, h0, h6, h5, n2, n3, e2, DL.wrap_id, DL.D.toN]
          refine ⟨by omega, by omega, by omega, by omega, ⟨p + k + t, n, ver + 1, acc ++ [⟨(l.drop (p + k)).take t, (l.drop p).take k⟩], by omega, by simp; omega, by omega, by rw [hS, List.drop_drop], by simp, rfl, by rw [toksD_snoc]; rfl⟩, by omega⟩
end Go.Proofs.Tryd
set_option maxRecDepth 100000
set_option linter.unusedSimpArgs false
set_option linter.unusedVariables false
namespace Go.Proofs.Tryd
open Go Go.DL
variable {G : Nat → D} {H : List O} {Q : D → List O → Prop}
def I64 (n : Int) : Prop := -9223372036854775808 ≤ n ∧ n ≤ 9223372036854775807
def around (n m : Int) : Int := (if n < 0 then -(n+1) else n) % m
theorem around_spec (n m : Int) (hn : I64 n) (hm : 0 < m) (hm' : m ≤ 9223372036854775807) (hQ : Q (dI (around n m)) H) : CallA Tryd.prog G 11 [dI n, dI m] H Q := by
  refine s11 (Nat.le_of_ble_eq_true rfl) ?_
  unfold I64 at hn
  unfold around at hQ
  simp -dsimp -implicitDefEqProofs (maxSteps := 1000000) (disch := first | omega | (simp only [List.length_append, List.length_cons, List.length_nil]; omega) | (intros; simp only [ne_eq, reduceCtorEq, not_false_eq_true] <;> fail)) only [DL.R, Nat.reduceEqDiff, ↓reduceIte, reduceCtorEq, Int.reduceToNat, Int.reduceLE, Int.reduceLT, Nat.reduceLeDiff, Nat.reduceAdd, Nat.reduceMul, Int.reduceBNe, Int.reduceBEq, Int.cast_ofNat_Int, decide_true, decide_false, ne_eq, eq_self, implies_true, dc11_r0, dc11_r1, dc11_r2, dc11_r3, dc11, DL.dI, DL.dB, DL.dS, DL.dI, DL.dB, DL.dS]
  refine onB_i (fun h => ?_) (fun h => ?_)
  · have h' : n < 0 := by simpa using h
    simp -dsimp -implicitDefEqProofs (maxSteps := 1000000) (disch := first | omega | (simp only [List.length_append, List.length_cons, List.length_nil]; omega) | (intros; simp only [ne_eq, reduceCtorEq, not_false_eq_true] <;> fail)) only [DL.R, Nat.reduceEqDiff, ↓reduceIte, reduceCtorEq, Int.reduceToNat, Int.reduceLE, Int.reduceLT, Nat.reduceLeDiff, Nat.reduceAdd, Nat.reduceMul, Int.reduceBNe, Int.reduceBEq, Int.cast_ofNat_Int, decide_true, decide_false, ne_eq, eq_self, implies_true, dc11_r0, dc11_r1, dc11_r2, dc11_r3, dc11, DL.dI, DL.dB, DL.dS, DL.wrap_id]
    rw [if_pos h', ← Int.tmod_eq_emod_of_nonneg (by omega)] at hQ
    have e : 0 - (n + 1) = -(n + 1) := by omega
    rw [e]; exact hQ
  · have h' : ¬ n < 0 := by simpa using h
    simp -dsimp -implicitDefEqProofs (maxSteps := 1000000) (disch := first | omega | (simp only [List.length_append, List.length_cons, List.length_nil]; omega) | (intros; simp only [ne_eq, reduceCtorEq, not_false_eq_true] <;> fail)) only [DL.R, Nat.reduceEqDiff, ↓reduceIte, reduceCtorEq, Int.reduceToNat, Int.reduceLE, Int.reduceLT, Nat.reduceLeDiff, Nat.reduceAdd, Nat.reduceMul, Int.reduceBNe, Int.reduceBEq, Int.cast_ofNat_Int, decide_true, decide_false, ne_eq, eq_self, implies_true, dc11_r0, dc11_r1, dc11_r2, dc11_r3, dc11, DL.dI, DL.dB, DL.dS, DL.wrap_id]
    rw [if_neg h', ← Int.tmod_eq_emod_of_nonneg (by omega)] at hQ
    exact hQ
def ints (l : List Int) : List D := l.map dI
def at_ (l : List Int) (i m : Int) : Int := if i < 0 ∨ i ≥ l.length then 0 else around (l.getD i.toNat 0) m
theorem at_spec (l : List Int) (i m : Int) (hl : ∀ n ∈ l, I64 n) (hm : 0 < m) (hm' : m ≤ 9223372036854775807) (hQ : Q (dI (at_ l i m)) H) : CallA Tryd.prog G 13 [.sl (ints l), dI i, dI m] H Q := by
  refine s13 (Nat.le_of_ble_eq_true rfl) ?_
  unfold at_ at hQ
  have hlen : (ints l).length = l.length := by simp [ints]
  simp -dsimp -implicitDefEqProofs (maxSteps := 1000000) (disch := first | omega | (simp only [List.length_append, List.length_cons, List.length_nil]; omega) | (intros; simp only [ne_eq, reduceCtorEq, not_false_eq_true] <;> fail)) only [DL.R, Nat.reduceEqDiff, ↓reduceIte, reduceCtorEq, Int.reduceToNat, Int.reduceLE, Int.reduceLT, Nat.reduceLeDiff, Nat.reduceAdd, Nat.reduceMul, Int.reduceBNe, Int.reduceBEq, Int.cast_ofNat_Int, decide_true, decide_false, ne_eq, eq_self, implies_true, dc13_r0, dc13_r1, dc13_r2, dc13_r3, dc13, DL.dI, DL.dB, DL.dS, DL.dI, DL.dB, DL.dS, hlen]
  refine onG_i (fun h => ?_) (fun h => ?_)
  · have h' : ¬ i < 0 := by simpa using h
    simp -dsimp -implicitDefEqProofs (maxSteps := 1000000) (disch := first | omega | (simp only [List.length_append, List.length_cons, List.length_nil]; omega) | (intros; simp only [ne_eq, reduceCtorEq, not_false_eq_true] <;> fail)) only [DL.R, Nat.reduceEqDiff, ↓reduceIte, reduceCtorEq, Int.reduceToNat, Int.reduceLE, Int.reduceLT, Nat.reduceLeDiff, Nat.reduceAdd, Nat.reduceMul, Int.reduceBNe, Int.reduceBEq, Int.cast_ofNat_Int, decide_true, decide_false, ne_eq, eq_self, implies_true, dc13_r0, dc13_r1, dc13_r2, dc13_r3, dc13, DL.dI, DL.dB, DL.dS, hlen]
    refine onB_i (fun k => ?_) (fun k => ?_)
    · have k' : i ≥ l.length := by simpa using k
      simp -dsimp -implicitDefEqProofs (maxSteps := 1000000) (disch := first | omega | (simp only [List.length_append, List.length_cons, List.length_nil]; omega) | (intros; simp only [ne_eq, reduceCtorEq, not_false_eq_true] <;> fail)) only [DL.R, Nat.reduceEqDiff, ↓reduceIte, reduceCtorEq, Int.reduceToNat, Int.reduceLE, Int.reduceLT, Nat.reduceLeDiff, Nat.reduceAdd, Nat.reduceMul, Int.reduceBNe, Int.reduceBEq, Int.cast_ofNat_Int, decide_true, decide_false, ne_eq, eq_self, implies_true, dc13_r0, dc13_r1, dc13_r2, dc13_r3, dc13, DL.dI, DL.dB, DL.dS, hlen]
      rw [if_pos (.inr k')] at hQ; exact hQ
    · have k' : ¬ i ≥ l.length := by simpa using k
      simp -dsimp -implicitDefEqProofs (maxSteps := 1000000) (disch := first | omega | (simp only [List.length_append, List.length_cons, List.length_nil]; omega) | (intros; simp only [ne_eq, reduceCtorEq, not_false_eq_true] <;> fail)) only [DL.R, Nat.reduceEqDiff, ↓reduceIte, reduceCtorEq, Int.reduceToNat, Int.reduceLE, Int.reduceLT, Nat.reduceLeDiff, Nat.reduceAdd, Nat.reduceMul, Int.reduceBNe, Int.reduceBEq, Int.cast_ofNat_Int, decide_true, decide_false, ne_eq, eq_self, implies_true, dc13_r0, dc13_r1, dc13_r2, dc13_r3, dc13, DL.dI, DL.dB, DL.dS, hlen]
      rw [if_neg (by omega)] at hQ
      have hg : (ints l)[i.toNat]? = some (dI (l.getD i.toNat 0)) := by
        have : i.toNat < l.length := by omega
        simp [ints, List.getElem?_eq_getElem this, List.getD_eq_getElem?_getD]
      refine onIdx_i (by omega) hg ?_
      simp -dsimp -implicitDefEqProofs (maxSteps := 1000000) (disch := first | omega | (simp only [List.length_append, List.length_cons, List.length_nil]; omega) | (intros; simp only [ne_eq, reduceCtorEq, not_false_eq_true] <;> fail)) only [DL.R, Nat.reduceEqDiff, ↓reduceIte, reduceCtorEq, Int.reduceToNat, Int.reduceLE, Int.reduceLT, Nat.reduceLeDiff, Nat.reduceAdd, Nat.reduceMul, Int.reduceBNe, Int.reduceBEq, Int.cast_ofNat_Int, decide_true, decide_false, ne_eq, eq_self, implies_true, dc13_r0, dc13_r1, dc13_r2, dc13_r3, dc13, DL.dI, DL.dB, DL.dS, DL.dI, DL.D.leaves, DL.mkD, List.take, List.headD]
      have hin : l.getD i.toNat 0 ∈ l := by
        have : i.toNat < l.length := by omega
        simp [List.getD_eq_getElem?_getD, List.getElem?_eq_getElem this]
      refine around_spec _ _ (hl _ hin) hm hm' ?_
      simp -dsimp -implicitDefEqProofs (maxSteps := 1000000) (disch := first | omega | (simp only [List.length_append, List.length_cons, List.length_nil]; omega) | (intros; simp only [ne_eq, reduceCtorEq, not_false_eq_true] <;> fail)) only [DL.R, Nat.reduceEqDiff, ↓reduceIte, reduceCtorEq, Int.reduceToNat, Int.reduceLE, Int.reduceLT, Nat.reduceLeDiff, Nat.reduceAdd, Nat.reduceMul, Int.reduceBNe, Int.reduceBEq, Int.cast_ofNat_Int, decide_true, decide_false, ne_eq, eq_self, implies_true, dc13_r0, dc13_r1, dc13_r2, dc13_r3, dc13, DL.dI, DL.dB, DL.dS, DL.dI]
      exact hQ
  · have h' : i < 0 := by simpa using h
    simp -dsimp -implicitDefEqProofs (maxSteps := 1000000) (disch := first | omega | (simp only [List.length_append, List.length_cons, List.length_nil]; omega) | (intros; simp only [ne_eq, reduceCtorEq, not_false_eq_true] <;> fail)) only [DL.R, Nat.reduceEqDiff, ↓reduceIte, reduceCtorEq, Int.reduceToNat, Int.reduceLE, Int.reduceLT, Nat.reduceLeDiff, Nat.reduceAdd, Nat.reduceMul, Int.reduceBNe, Int.reduceBEq, Int.cast_ofNat_Int, decide_true, decide_false, ne_eq, eq_self, implies_true, dc13_r0, dc13_r1, dc13_r2, dc13_r3, dc13, DL.dI, DL.dB, DL.dS, hlen]
    rw [if_pos (.inl h')] at hQ; exact hQ
theorem ints_get {l : List Int} {k : Nat} (h : k < l.length) : (ints l)[k]? = some (dI (l[k]'h)) := by simp [ints, h]
theorem ints_len (l : List Int) : (ints l).length = l.length := by simp [ints]
end Go.Proofs.Tryd
set_option maxRecDepth 100000
set_option linter.unusedSimpArgs false
set_option linter.unusedVariables false
namespace Go.Proofs.Tryd
open Go Go.DL
variable {G : Nat → D} {H : List O} {Q : D → List O → Prop}
theorem sameInts_spec (l m : List Int) (hb : l.length ≤ 4611686018427387904) (hQ : Q (dB (l == m)) H) : CallA Tryd.prog G 34 [.sl (ints l), .sl (ints m)] H Q := by
  refine s34 (Nat.le_of_ble_eq_true rfl) ?_
  simp -dsimp -implicitDefEqProofs (maxSteps := 1000000) (disch := first | omega | (simp only [List.length_append, List.length_cons, List.length_nil]; omega) | (intros; simp only [ne_eq, reduceCtorEq, not_false_eq_true] <;> fail)) only [DL.R, Nat.reduceEqDiff, ↓reduceIte, reduceCtorEq, Int.reduceToNat, Int.reduceLE, Int.reduceLT, Nat.reduceLeDiff, Nat.reduceAdd, Nat.reduceMul, Int.reduceBNe, Int.reduceBEq, Int.cast_ofNat_Int, decide_true, decide_false, ne_eq, eq_self, implies_true, dc34_r0, dc34_r1, dc34_r2, dc34_r3, dc34_r4, dc34_r6, dc34_r7, dc34_r5, dc34_r8, dc34, DL.dI, DL.dB, DL.dS, DL.dI, DL.dB, DL.dS, ints_len]
  refine onB_i (fun c => ?_) (fun c => ?_)
  · simp -dsimp -implicitDefEqProofs (maxSteps := 1000000) (disch := first | omega | (simp only [List.length_append, List.length_cons, List.length_nil]; omega) | (intros; simp only [ne_eq, reduceCtorEq, not_false_eq_true] <;> fail)) only [DL.R, Nat.reduceEqDiff, ↓reduceIte, reduceCtorEq, Int.reduceToNat, Int.reduceLE, Int.reduceLT, Nat.reduceLeDiff, Nat.reduceAdd, Nat.reduceMul, Int.reduceBNe, Int.reduceBEq, Int.cast_ofNat_Int, decide_true, decide_false, ne_eq, eq_self, implies_true, dc34_r0, dc34_r1, dc34_r2, dc34_r3, dc34_r4, dc34_r6, dc34_r7, dc34_r5, dc34_r8, dc34, DL.dI, DL.dB, DL.dS]
    have c' : l.length ≠ m.length := by simp at c; omega
    have : (l == m) = false := by
      rw [← Bool.not_eq_true, beq_iff_eq]; intro e; exact c' (by rw [e])
    rw [this] at hQ; exact hQ
  have c' : l.length = m.length := by simp at c; omega
  simp -dsimp -implicitDefEqProofs (maxSteps := 1000000) (disch := first | omega | (simp only [List.length_append, List.length_cons, List.length_nil]; omega) | (intros; simp only [ne_eq, reduceCtorEq, not_false_eq_true] <;> fail)) only [DL.R, Nat.reduceEqDiff, ↓reduceIte, reduceCtorEq, Int.reduceToNat, Int.reduceLE, Int.reduceLT, Nat.reduceLeDiff, Nat.reduceAdd, Nat.reduceMul, Int.reduceBNe, Int.reduceBEq, Int.cast_ofNat_Int, decide_true, decide_false, ne_eq, eq_self, implies_true, dc34_r0, dc34_r1, dc34_r2, dc34_r3, dc34_r4, dc34_r6, dc34_r7, dc34_r5, dc34_r8, dc34, DL.dI, DL.dB, DL.dS]
  refine for_i 5 l.length (fun k s' H' => H' = H ∧ s' 0 = .sl (ints l) ∧ s' 1 = .sl (ints m) ∧ ∀ j, j < k → l[j]? = m[j]?) ?_ ?_ ?_
  · simp -dsimp -implicitDefEqProofs (maxSteps := 1000000) (disch := first | omega | (simp only [List.length_append, List.length_cons, List.length_nil]; omega) | (intros; simp only [ne_eq, reduceCtorEq, not_false_eq_true] <;> fail)) only [DL.R, Nat.reduceEqDiff, ↓reduceIte, reduceCtorEq, Int.reduceToNat, Int.reduceLE, Int.reduceLT, Nat.reduceLeDiff, Nat.reduceAdd, Nat.reduceMul, Int.reduceBNe, Int.reduceBEq, Int.cast_ofNat_Int, decide_true, decide_false, ne_eq, eq_self, implies_true, DL.dI, DL.dB, DL.dS]
  · simp -dsimp -implicitDefEqProofs (maxSteps := 1000000) (disch := first | omega | (simp only [List.length_append, List.length_cons, List.length_nil]; omega) | (intros; simp only [ne_eq, reduceCtorEq, not_false_eq_true] <;> fail)) only [DL.R, Nat.reduceEqDiff, ↓reduceIte, reduceCtorEq, Int.reduceToNat, Int.reduceLE, Int.reduceLT, Nat.reduceLeDiff, Nat.reduceAdd, Nat.reduceMul, Int.reduceBNe, Int.reduceBEq, Int.cast_ofNat_Int, decide_true, decide_false, ne_eq, eq_self, implies_true, DL.dI, DL.dB, DL.dS, DL.dI]
    simp
  · rintro k s' H' hk ht ⟨rfl, h0, h1, hP⟩
    simp -dsimp -implicitDefEqProofs (maxSteps := 1000000) (disch := first | omega | (simp only [List.length_append, List.length_cons, List.length_nil]; omega) | (intros; simp only [ne_eq, reduceCtorEq, not_false_eq_true] <;> fail)) only [DL.R, Nat.reduceEqDiff, ↓reduceIte, reduceCtorEq, Int.reduceToNat, Int.reduceLE, Int.reduceLT, Nat.reduceLeDiff, Nat.reduceAdd, Nat.reduceMul, Int.reduceBNe, Int.reduceBEq, Int.cast_ofNat_Int, decide_true, decide_false, ne_eq, eq_self, implies_true, dc34_r0, dc34_r1, dc34_r2, dc34_r3, dc34_r4, dc34_r6, dc34_r7, dc34_r5, dc34_r8, dc34, DL.dI, DL.dB, DL.dS, DL.dI, h0, h1, ht, ints_len]
    refine onB_i (fun c => ?_) (fun c => ?_)
    · have c1 : k < l.length := by simpa using c
      have c2 : k < m.length := by omega
      simp -dsimp -implicitDefEqProofs (maxSteps := 1000000) (disch := first | omega | (simp only [List.length_append, List.length_cons, List.length_nil]; omega) | (intros; simp only [ne_eq, reduceCtorEq, not_false_eq_true] <;> fail)) only [DL.R, Nat.reduceEqDiff, ↓reduceIte, reduceCtorEq, Int.reduceToNat, Int.reduceLE, Int.reduceLT, Nat.reduceLeDiff, Nat.reduceAdd, Nat.reduceMul, Int.reduceBNe, Int.reduceBEq, Int.cast_ofNat_Int, decide_true, decide_false, ne_eq, eq_self, implies_true, dc34_r0, dc34_r1, dc34_r2, dc34_r3, dc34_r4, dc34_r6, dc34_r7, dc34_r5, dc34_r8, dc34, DL.dI, DL.dB, DL.dS, DL.dI, h0, h1, ht, ints_len]
      refine onIdx_i (by omega) (by simpa using ints_get c1) ?_
      simp -dsimp -implicitDefEqProofs (maxSteps := 1000000) (disch := first | omega | (simp only [List.length_append, List.length_cons, List.length_nil]; omega) | (intros; simp only [ne_eq, reduceCtorEq, not_false_eq_true] <;> fail)) only [DL.R, Nat.reduceEqDiff, ↓reduceIte, reduceCtorEq, Int.reduceToNat, Int.reduceLE, Int.reduceLT, Nat.reduceLeDiff, Nat.reduceAdd, Nat.reduceMul, Int.reduceBNe, Int.reduceBEq, Int.cast_ofNat_Int, decide_true, decide_false, ne_eq, eq_self, implies_true, dc34_r0, dc34_r1, dc34_r2, dc34_r3, dc34_r4, dc34_r6, dc34_r7, dc34_r5, dc34_r8, dc34, DL.dI, DL.dB, DL.dS, DL.dI, h0, h1, ht, ints_len]
      refine onIdx_i (by omega) (by simpa using ints_get c2) ?_
      simp -dsimp -implicitDefEqProofs (maxSteps := 1000000) (disch := first | omega | (simp only [List.length_append, List.length_cons, List.length_nil]; omega) | (intros; simp only [ne_eq, reduceCtorEq, not_false_eq_true] <;> fail)) only [DL.R, Nat.reduceEqDiff, ↓reduceIte, reduceCtorEq, Int.reduceToNat, Int.reduceLE, Int.reduceLT, Nat.reduceLeDiff, Nat.reduceAdd, Nat.reduceMul, Int.reduceBNe, Int.reduceBEq, Int.cast_ofNat_Int, decide_true, decide_false, ne_eq, eq_self, implies_true, dc34_r0, dc34_r1, dc34_r2, dc34_r3, dc34_r4, dc34_r6, dc34_r7, dc34_r5, dc34_r8, dc34, DL.dI, DL.dB, DL.dS, DL.dI, h0, h1, ht, ints_len]
      refine onB_i (fun e => ?_) (fun e => ?_)
      · have e' : ¬ l[k] = m[k] := by simpa using e
        simp -dsimp -implicitDefEqProofs (maxSteps := 1000000) (disch := first | omega | (simp only [List.length_append, List.length_cons, List.length_nil]; omega) | (intros; simp only [ne_eq, reduceCtorEq, not_false_eq_true] <;> fail)) only [DL.R, Nat.reduceEqDiff, ↓reduceIte, reduceCtorEq, Int.reduceToNat, Int.reduceLE, Int.reduceLT, Nat.reduceLeDiff, Nat.reduceAdd, Nat.reduceMul, Int.reduceBNe, Int.reduceBEq, Int.cast_ofNat_Int, decide_true, decide_false, ne_eq, eq_self, implies_true, dc34_r0, dc34_r1, dc34_r2, dc34_r3, dc34_r4, dc34_r6, dc34_r7, dc34_r5, dc34_r8, dc34, DL.dI, DL.dB, DL.dS, DL.dI, h0, h1, ht, ints_len]
        have : (l == m) = false := by
          rw [← Bool.not_eq_true, beq_iff_eq]; intro e; subst e; exact e' rfl
        rw [this] at hQ; exact hQ
      · have e' : l[k] = m[k] := by simpa using e
        simp -dsimp -implicitDefEqProofs (maxSteps := 1000000) (disch := first | omega | (simp only [List.length_append, List.length_cons, List.length_nil]; omega) | (intros; simp only [ne_eq, reduceCtorEq, not_false_eq_true] <;> fail)) only [DL.R, Nat.reduceEqDiff, ↓reduceIte, reduceCtorEq, Int.reduceToNat, Int.reduceLE, Int.reduceLT, Nat.reduceLeDiff, Nat.reduceAdd, Nat.reduceMul, Int.reduceBNe, Int.reduceBEq, Int.cast_ofNat_Int, decide_true, decide_false, ne_eq, eq_self, implies_true, dc34_r0, dc34_r1, dc34_r2, dc34_r3, dc34_r4, dc34_r6, dc34_r7, dc34_r5, dc34_r8, dc34, DL.dI, DL.dB, DL.dS, DL.dI, h0, h1, ht, ints_len, DL.wrap_id]
        refine ⟨c1, fun j hj => ?_⟩
        by_cases hjk : j < k
        · exact hP j hjk
        · have : j = k := by omega
          subst this; simp [c1, c2, e']
    · have c1 : ¬ k < l.length := by simpa using c
      simp -dsimp -implicitDefEqProofs (maxSteps := 1000000) (disch := first | omega | (simp only [List.length_append, List.length_cons, List.length_nil]; omega) | (intros; simp only [ne_eq, reduceCtorEq, not_false_eq_true] <;> fail)) only [DL.R, Nat.reduceEqDiff, ↓reduceIte, reduceCtorEq, Int.reduceToNat, Int.reduceLE, Int.reduceLT, Nat.reduceLeDiff, Nat.reduceAdd, Nat.reduceMul, Int.reduceBNe, Int.reduceBEq, Int.cast_ofNat_Int, decide_true, decide_false, ne_eq, eq_self, implies_true, dc34_r0, dc34_r1, dc34_r2, dc34_r3, dc34_r4, dc34_r6, dc34_r7, dc34_r5, dc34_r8, dc34, DL.dI, DL.dB, DL.dS, DL.dI, h0, h1, ht, ints_len]
      have : (l == m) = true := by
        rw [beq_iff_eq]
        apply List.ext_getElem?
        intro j
        by_cases hj : j < k
        · exact hP j hj
        · rw [List.getElem?_eq_none (by omega), List.getElem?_eq_none (by omega)]
      rw [this] at hQ; exact hQ
theorem index_spec (l : List Int) (n : Int) (hb : l.length ≤ 4611686018427387904) (hQ : ∀ r : Int, (0 ≤ r ↔ n ∈ l) → Q (dI r) H) : CallA Tryd.prog G 55 [.sl (ints l), dI n] H Q := by
  refine s55 (Nat.le_of_ble_eq_true rfl) ?_
  simp -dsimp -implicitDefEqProofs (maxSteps := 1000000) (disch := first | omega | (simp only [List.length_append, List.length_cons, List.length_nil]; omega) | (intros; simp only [ne_eq, reduceCtorEq, not_false_eq_true] <;> fail)) only [DL.R, Nat.reduceEqDiff, ↓reduceIte, reduceCtorEq, Int.reduceToNat, Int.reduceLE, Int.reduceLT, Nat.reduceLeDiff, Nat.reduceAdd, Nat.reduceMul, Int.reduceBNe, Int.reduceBEq, Int.cast_ofNat_Int, decide_true, decide_false, ne_eq, eq_self, implies_true, dc55_r0, dc55_r1, dc55_r2, dc55_r3, dc55_r4, dc55_r5, dc55_r6, dc55_r7, dc55, DL.dI, DL.dB, DL.dS, DL.dI, DL.dB, DL.dS, ints_len]
  refine for_i 8 l.length (fun k s' H' => H' = H ∧ s' 0 = .sl (ints l) ∧ s' 1 = dI n ∧ s' 7 = dI l.length ∧ ∀ j, j < k → l[j]? ≠ some n) ?_ ?_ ?_
  · simp -dsimp -implicitDefEqProofs (maxSteps := 1000000) (disch := first | omega | (simp only [List.length_append, List.length_cons, List.length_nil]; omega) | (intros; simp only [ne_eq, reduceCtorEq, not_false_eq_true] <;> fail)) only [DL.R, Nat.reduceEqDiff, ↓reduceIte, reduceCtorEq, Int.reduceToNat, Int.reduceLE, Int.reduceLT, Nat.reduceLeDiff, Nat.reduceAdd, Nat.reduceMul, Int.reduceBNe, Int.reduceBEq, Int.cast_ofNat_Int, decide_true, decide_false, ne_eq, eq_self, implies_true, DL.dI, DL.dB, DL.dS]
  · simp -dsimp -implicitDefEqProofs (maxSteps := 1000000) (disch := first | omega | (simp only [List.length_append, List.length_cons, List.length_nil]; omega) | (intros; simp only [ne_eq, reduceCtorEq, not_false_eq_true] <;> fail)) only [DL.R, Nat.reduceEqDiff, ↓reduceIte, reduceCtorEq, Int.reduceToNat, Int.reduceLE, Int.reduceLT, Nat.reduceLeDiff, Nat.reduceAdd, Nat.reduceMul, Int.reduceBNe, Int.reduceBEq, Int.cast_ofNat_Int, decide_true, decide_false, ne_eq, eq_self, implies_true, DL.dI, DL.dB, DL.dS, DL.dI]
    simp
  · rintro k s' H' hk ht ⟨rfl, h0, h1, h7, hP⟩
    simp -dsimp -implicitDefEqProofs (maxSteps := 1000000) (disch := first | omega | (simp only [List.length_append, List.length_cons, List.length_nil]; omega) | (intros; simp only [ne_eq, reduceCtorEq, not_false_eq_true] <;> fail)) only [DL.R, Nat.reduceEqDiff, ↓reduceIte, reduceCtorEq, Int.reduceToNat, Int.reduceLE, Int.reduceLT, Nat.reduceLeDiff, Nat.reduceAdd, Nat.reduceMul, Int.reduceBNe, Int.reduceBEq, Int.cast_ofNat_Int, decide_true, decide_false, ne_eq, eq_self, implies_true, dc55_r0, dc55_r1, dc55_r2, dc55_r3, dc55_r4, dc55_r5, dc55_r6, dc55_r7, dc55, DL.dI, DL.dB, DL.dS, DL.dI, h0, h1, h7, ht, ints_len]
    refine onB_i (fun c => ?_) (fun c => ?_)
    · have c' : k < l.length := by simpa using c
      simp -dsimp -implicitDefEqProofs (maxSteps := 1000000) (disch := first | omega | (simp only [List.length_append, List.length_cons, List.length_nil]; omega) | (intros; simp only [ne_eq, reduceCtorEq, not_false_eq_true] <;> fail)) only [DL.R, Nat.reduceEqDiff, ↓reduceIte, reduceCtorEq, Int.reduceToNat, Int.reduceLE, Int.reduceLT, Nat.reduceLeDiff, Nat.reduceAdd, Nat.reduceMul, Int.reduceBNe, Int.reduceBEq, Int.cast_ofNat_Int, decide_true, decide_false, ne_eq, eq_self, implies_true, dc55_r0, dc55_r1, dc55_r2, dc55_r3, dc55_r4, dc55_r5, dc55_r6, dc55_r7, dc55, DL.dI, DL.dB, DL.dS, DL.dI, h0, h1, h7, ht, ints_len]
      refine onIdx_i (by omega) (by simpa using ints_get c') ?_
      simp -dsimp -implicitDefEqProofs (maxSteps := 1000000) (disch := first | omega | (simp only [List.length_append, List.length_cons, List.length_nil]; omega) | (intros; simp only [ne_eq, reduceCtorEq, not_false_eq_true] <;> fail)) only [DL.R, Nat.reduceEqDiff, ↓reduceIte, reduceCtorEq, Int.reduceToNat, Int.reduceLE, Int.reduceLT, Nat.reduceLeDiff, Nat.reduceAdd, Nat.reduceMul, Int.reduceBNe, Int.reduceBEq, Int.cast_ofNat_Int, decide_true, decide_false, ne_eq, eq_self, implies_true, dc55_r0, dc55_r1, dc55_r2, dc55_r3, dc55_r4, dc55_r5, dc55_r6, dc55_r7, dc55, DL.dI, DL.dB, DL.dS, DL.dI, h0, h1, h7, ht, ints_len]
      refine onB_i (fun e => ?_) (fun e => ?_)
      · have e' : n = l[k] := by simpa using e
        simp -dsimp -implicitDefEqProofs (maxSteps := 1000000) (disch := first | omega | (simp only [List.length_append, List.length_cons, List.length_nil]; omega) | (intros; simp only [ne_eq, reduceCtorEq, not_false_eq_true] <;> fail)) only [DL.R, Nat.reduceEqDiff, ↓reduceIte, reduceCtorEq, Int.reduceToNat, Int.reduceLE, Int.reduceLT, Nat.reduceLeDiff, Nat.reduceAdd, Nat.reduceMul, Int.reduceBNe, Int.reduceBEq, Int.cast_ofNat_Int, decide_true, decide_false, ne_eq, eq_self, implies_true, dc55_r0, dc55_r1, dc55_r2, dc55_r3, dc55_r4, dc55_r5, dc55_r6, dc55_r7, dc55, DL.dI, DL.dB, DL.dS, DL.dI, h0, h1, h7, ht, ints_len]
        exact hQ k ⟨fun _ => by rw [e']; exact List.getElem_mem _, fun _ => by omega⟩
      · have e' : ¬ n = l[k] := by simpa using e
        simp -dsimp -implicitDefEqProofs (maxSteps := 1000000) (disch := first | omega | (simp only [List.length_append, List.length_cons, List.length_nil]; omega) | (intros; simp only [ne_eq, reduceCtorEq, not_false_eq_true] <;> fail)) only [DL.R, Nat.reduceEqDiff, ↓reduceIte, reduceCtorEq, Int.reduceToNat, Int.reduceLE, Int.reduceLT, Nat.reduceLeDiff, Nat.reduceAdd, Nat.reduceMul, Int.reduceBNe, Int.reduceBEq, Int.cast_ofNat_Int, decide_true, decide_false, ne_eq, eq_self, implies_true, dc55_r0, dc55_r1, dc55_r2, dc55_r3, dc55_r4, dc55_r5, dc55_r6, dc55_r7, dc55, DL.dI, DL.dB, DL.dS, DL.dI, h0, h1, h7, ht, ints_len, DL.wrap_id]
        refine ⟨c', fun j hj => ?_⟩
        by_cases hjk : j < k
        · exact hP j hjk
        · have : j = k := by omega
          subst this; simpa [c'] using fun q : l[j] = n => e' q.symm
    · have c' : ¬ k < l.length := by simpa using c
      simp -dsimp -implicitDefEqProofs (maxSteps := 1000000) (disch := first | omega | (simp only [List.length_append, List.length_cons, List.length_nil]; omega) | (intros; simp only [ne_eq, reduceCtorEq, not_false_eq_true] <;> fail)) only [DL.R, Nat.reduceEqDiff, ↓reduceIte, reduceCtorEq, Int.reduceToNat, Int.reduceLE, Int.reduceLT, Nat.reduceLeDiff, Nat.reduceAdd, Nat.reduceMul, Int.reduceBNe, Int.reduceBEq, Int.cast_ofNat_Int, decide_true, decide_false, ne_eq, eq_self, implies_true, dc55_r0, dc55_r1, dc55_r2, dc55_r3, dc55_r4, dc55_r5, dc55_r6, dc55_r7, dc55, DL.dI, DL.dB, DL.dS, DL.dI, h0, h1, h7, ht, ints_len]
      refine hQ (-1) ⟨fun q => by omega, fun hm => ?_⟩
      obtain ⟨j, hj, e⟩ := List.mem_iff_getElem.1 hm
      exact absurd (by simp [hj, e]) (hP j (by omega))
theorem contains_spec (l : List Int) (n : Int) (hb : l.length ≤ 4611686018427387904) (hQ : Q (dB (l.contains n)) H) : CallA Tryd.prog G 41 [.sl (ints l), dI n] H Q := by
  refine s41 (Nat.le_of_ble_eq_true rfl) ?_
  simp -dsimp -implicitDefEqProofs (maxSteps := 1000000) (disch := first | omega | (simp only [List.length_append, List.length_cons, List.length_nil]; omega) | (intros; simp only [ne_eq, reduceCtorEq, not_false_eq_true] <;> fail)) only [DL.R, Nat.reduceEqDiff, ↓reduceIte, reduceCtorEq, Int.reduceToNat, Int.reduceLE, Int.reduceLT, Nat.reduceLeDiff, Nat.reduceAdd, Nat.reduceMul, Int.reduceBNe, Int.reduceBEq, Int.cast_ofNat_Int, decide_true, decide_false, ne_eq, eq_self, implies_true, dc41_r0, dc41_r1, dc41, DL.dI, DL.dB, DL.dS, DL.dI, DL.dB, DL.dS, ints_len]
  refine index_spec _ _ hb fun r hr => ?_
  simp -dsimp -implicitDefEqProofs (maxSteps := 1000000) (disch := first | omega | (simp only [List.length_append, List.length_cons, List.length_nil]; omega) | (intros; simp only [ne_eq, reduceCtorEq, not_false_eq_true] <;> fail)) only [DL.R, Nat.reduceEqDiff, ↓reduceIte, reduceCtorEq, Int.reduceToNat, Int.reduceLE, Int.reduceLT, Nat.reduceLeDiff, Nat.reduceAdd, Nat.reduceMul, Int.reduceBNe, Int.reduceBEq, Int.cast_ofNat_Int, decide_true, decide_false, ne_eq, eq_self, implies_true, dc41_r0, dc41_r1, dc41, DL.dI, DL.dB, DL.dS, DL.dI]
  have : l.contains n = decide (r ≥ 0) := by
    by_cases h : n ∈ l
    · have := hr.2 h; simp [h, this]
    · have : ¬ r ≥ 0 := fun q => h (hr.1 q)
      simp [h, this]
  rw [this] at hQ; exact hQ
end Go.Proofs.Tryd
set_option maxRecDepth 100000
set_option linter.unusedSimpArgs false
set_option linter.unusedVariables false
namespace Go.Proofs.Tryd
open Go Go.DL
variable {G : Nat → D} {H : List O} {Q : D → List O → Prop}
structure Rule where
  what : ByteArray
  mod : ByteArray
  n : Int
  who : List Int
def ruleL (r : Rule) : List D := [dS r.what, dS r.mod, dI r.n, .sl (ints r.who)]
def ruleD (r : Rule) : D := .agg (ruleL r)
def rulesD (l : List Rule) : List D := l.map ruleD
theorem rules_get {l : List Rule} {k : Nat} (h : k < l.length) : (rulesD l)[k]? = some (ruleD (l[k]'h)) := by simp [rulesD, h]
theorem rules_len (l : List Rule) : (rulesD l).length = l.length := by simp [rulesD]
def appr (a : Int) : List Int → List Int → List Int
  | acc, [] => acc
  | acc, x :: w => appr a (if x = a ∨ x ∈ acc then acc else acc ++ [x]) w
def cnt (a : Int) (w who : List Int) : Nat := ((appr a [] w).filter fun x => who.contains x).length
def enough (l : List Rule) (a : Int) (w : List Int) : Bool := l.all fun r => decide (r.n ≤ cnt a w r.who)
theorem appr_snoc (a x : Int) : ∀ (w acc : List Int), appr a acc (w ++ [x]) = (if x = a ∨ x ∈ appr a acc w then appr a acc w else appr a acc w ++ [x])
  | [], acc => rfl
  | y :: w, acc => appr_snoc a x w _
theorem appr_len (a : Int) : ∀ (w acc : List Int), (appr a acc w).length ≤ acc.length + w.length
  | [], acc => by simp [appr]
  | y :: w, acc => by
    have := appr_len a w (if y = a ∨ y ∈ acc then acc else acc ++ [y])
    simp only [appr, List.length_cons]
    split at this <;> rename_i h
    · rw [if_pos h]; omega
    · rw [if_neg h]; simp at this ⊢; omega
def keysE (l : List Int) : List (Value × D) := l.map fun n => (.int .i64 n, .lit (.bool true))
theorem find_keys (n : Int) : ∀ l : List Int, findE (.int .i64) (.int .i64 n) (keysE l) = l.findIdx? fun m => n == m
  | [] => rfl
  | m :: l => by
    have ih := find_keys n l
    simp only [findE, keysE, List.map_cons, List.findIdx?_cons] at ih ⊢
    rw [ih]
    simp [Instr.sameNow]
theorem put_keys (n : Int) (l : List Int) : putE (.int .i64) (.int .i64 n) (.lit (.bool true)) (keysE l) = keysE (if n ∈ l then l else l ++ [n]) := by
  unfold putE
  rw [find_keys]
  cases h : l.findIdx? fun m => n == m with
  | none =>
    have h' : n ∉ l := by
      rw [List.findIdx?_eq_none_iff] at h
      intro hm; have := h n hm; simp at this
    simp only [h', if_false]
    simp [keysE]
  | some i =>
    obtain ⟨h1, h2, _⟩ := List.findIdx?_eq_some_iff_getElem.1 h
    have h3 : n = l[i] := by simpa using h2
    have h' : n ∈ l := by rw [h3]; exact List.getElem_mem _
    simp only [h', if_true]
    apply List.ext_getElem?
    intro j
    simp only [keysE, List.getElem?_set, List.length_map, List.getElem?_map]
    by_cases hij : i = j
    · subst hij; simp [h1, h3]
    · simp [hij]
theorem keys_ok (l : List Int) : ∀ p ∈ keysE l, MapKept.IsKey (.int .i64) p.1 := by
  intro p hp
  obtain ⟨n, _, rfl⟩ := List.mem_map.1 hp
  rfl
def hp (who : List Int) (p : Value × D) : Bool := match p.1 with
  | .int _ n => who.contains n
  | _ => false
def hit (who : List Int) (es : List (Value × D)) : Nat := (es.filter (hp who)).length
theorem hit_keys (who l : List Int) : hit who (keysE l) = (l.filter fun x => who.contains x).length := by
  unfold hit keysE
  rw [List.filter_map, List.length_map]
  rfl
theorem hit_erase (who : List Int) (p : Value × D) : ∀ (es : List (Value × D)) (i : Nat) (h : i < es.length), es[i]'h = p → hit who es = hit who (es.eraseIdx i) + (if hp who p then 1 else 0)
  | [], i, h, _ => by simp at h
  | e :: es, 0, h, e0 => by
    simp only [List.getElem_cons_zero] at e0
    subst e0
    simp only [hit, List.filter_cons, List.eraseIdx_cons_zero]
    by_cases q : hp who e = true
    · rw [if_pos q, if_pos q]; rfl
    · rw [if_neg q, if_neg q]; rfl
  | e :: es, i + 1, h, e0 => by
    have ih := hit_erase who p es i (by simpa using h) (by simpa using e0)
    simp only [hit, List.filter_cons, List.eraseIdx_cons_succ] at ih ⊢
    by_cases q : hp who e = true
    · rw [if_pos q, if_pos q]; simp only [List.length_cons]; omega
    · rw [if_neg q, if_neg q]; exact ih
theorem enough_spec (l : List Rule) (a : Int) (w : List Int) (hl : l.length ≤ 1099511627776) (hw : w.length ≤ 1099511627776) (hr : ∀ r ∈ l, r.who.length ≤ 1099511627776) (hQ : Q (dB (enough l a w)) H) : CallA Tryd.prog G 22 [.sl (rulesD l), dI a, .sl (ints w)] H Q := by
  refine CallA.drop (s22 (Nat.le_of_ble_eq_true rfl) ?_)
  simp -dsimp -implicitDefEqProofs (maxSteps := 1000000) (disch := first | omega | (simp only [List.length_append, List.length_cons, List.length_nil]; omega) | (intros; simp only [ne_eq, reduceCtorEq, not_false_eq_true] <;> fail)) only [DL.R, Nat.reduceEqDiff, ↓reduceIte, reduceCtorEq, Int.reduceToNat, Int.reduceLE, Int.reduceLT, Nat.reduceLeDiff, Nat.reduceAdd, Nat.reduceMul, Int.reduceBNe, Int.reduceBEq, Int.cast_ofNat_Int, decide_true, decide_false, ne_eq, eq_self, implies_true, dc22_r0, dc22_r1, dc22_r2, dc22_r3, dc22_r4, dc22_r5, dc22_r6, dc22_r7, dc22_r8, dc22_r9, dc22_r10, dc22_r11, dc22_r12, dc22_r13, dc22_r14, dc22_r15, dc22_r16, dc22_r17, dc22_r18, dc22_r19, dc22_r20, dc22, DL.dI, DL.dB, DL.dS, DL.dI, DL.dB, DL.dS, ints_len, rules_len]
  refine for_i 17 w.length (fun k s' H' => (∃ mv, H' = H ++ [.map mv (keysE (appr a [] (w.take k)))]) ∧ s' 0 = .sl (rulesD l) ∧ s' 1 = dI a ∧ s' 15 = .sl (ints w) ∧ s' 16 = dI w.length ∧ s' 7 = .mp H.length) ?_ ?_ ?_
  · simp -dsimp -implicitDefEqProofs (maxSteps := 1000000) (disch := first | omega | (simp only [List.length_append, List.length_cons, List.length_nil]; omega) | (intros; simp only [ne_eq, reduceCtorEq, not_false_eq_true] <;> fail)) only [DL.R, Nat.reduceEqDiff, ↓reduceIte, reduceCtorEq, Int.reduceToNat, Int.reduceLE, Int.reduceLT, Nat.reduceLeDiff, Nat.reduceAdd, Nat.reduceMul, Int.reduceBNe, Int.reduceBEq, Int.cast_ofNat_Int, decide_true, decide_false, ne_eq, eq_self, implies_true, DL.dI, DL.dB, DL.dS]
  · simp -dsimp -implicitDefEqProofs (maxSteps := 1000000) (disch := first | omega | (simp only [List.length_append, List.length_cons, List.length_nil]; omega) | (intros; simp only [ne_eq, reduceCtorEq, not_false_eq_true] <;> fail)) only [DL.R, Nat.reduceEqDiff, ↓reduceIte, reduceCtorEq, Int.reduceToNat, Int.reduceLE, Int.reduceLT, Nat.reduceLeDiff, Nat.reduceAdd, Nat.reduceMul, Int.reduceBNe, Int.reduceBEq, Int.cast_ofNat_Int, decide_true, decide_false, ne_eq, eq_self, implies_true, DL.dI, DL.dB, DL.dS, DL.dI]
    exact ⟨0, rfl⟩
  · rintro k s' H' hk ht ⟨⟨mv, rfl⟩, h0, h1, h15, h16, h7⟩
    simp -dsimp -implicitDefEqProofs (maxSteps := 1000000) (disch := first | omega | (simp only [List.length_append, List.length_cons, List.length_nil]; omega) | (intros; simp only [ne_eq, reduceCtorEq, not_false_eq_true] <;> fail)) only [DL.R, Nat.reduceEqDiff, ↓reduceIte, reduceCtorEq, Int.reduceToNat, Int.reduceLE, Int.reduceLT, Nat.reduceLeDiff, Nat.reduceAdd, Nat.reduceMul, Int.reduceBNe, Int.reduceBEq, Int.cast_ofNat_Int, decide_true, decide_false, ne_eq, eq_self, implies_true, dc22_r0, dc22_r1, dc22_r2, dc22_r3, dc22_r4, dc22_r5, dc22_r6, dc22_r7, dc22_r8, dc22_r9, dc22_r10, dc22_r11, dc22_r12, dc22_r13, dc22_r14, dc22_r15, dc22_r16, dc22_r17, dc22_r18, dc22_r19, dc22_r20, dc22, DL.dI, DL.dB, DL.dS, DL.dI, h0, h1, h15, h16, h7, ht, ints_len]
    refine onB_i (fun c => ?_) (fun c => ?_)
    · have c' : k < w.length := by simpa using c
      have htake : w.take (k + 1) = w.take k ++ [w[k]] := by rw [List.take_succ_eq_append_getElem c']
      simp -dsimp -implicitDefEqProofs (maxSteps := 1000000) (disch := first | omega | (simp only [List.length_append, List.length_cons, List.length_nil]; omega) | (intros; simp only [ne_eq, reduceCtorEq, not_false_eq_true] <;> fail)) only [DL.R, Nat.reduceEqDiff, ↓reduceIte, reduceCtorEq, Int.reduceToNat, Int.reduceLE, Int.reduceLT, Nat.reduceLeDiff, Nat.reduceAdd, Nat.reduceMul, Int.reduceBNe, Int.reduceBEq, Int.cast_ofNat_Int, decide_true, decide_false, ne_eq, eq_self, implies_true, dc22_r0, dc22_r1, dc22_r2, dc22_r3, dc22_r4, dc22_r5, dc22_r6, dc22_r7, dc22_r8, dc22_r9, dc22_r10, dc22_r11, dc22_r12, dc22_r13, dc22_r14, dc22_r15, dc22_r16, dc22_r17, dc22_r18, dc22_r19, dc22_r20, dc22, DL.dI, DL.dB, DL.dS, DL.dI, h0, h1, h15, h16, h7, ht, ints_len]
      refine onIdx_i (by omega) (by simpa using ints_get c') ?_
      simp -dsimp -implicitDefEqProofs (maxSteps := 1000000) (disch := first | omega | (simp only [List.length_append, List.length_cons, List.length_nil]; omega) | (intros; simp only [ne_eq, reduceCtorEq, not_false_eq_true] <;> fail)) only [DL.R, Nat.reduceEqDiff, ↓reduceIte, reduceCtorEq, Int.reduceToNat, Int.reduceLE, Int.reduceLT, Nat.reduceLeDiff, Nat.reduceAdd, Nat.reduceMul, Int.reduceBNe, Int.reduceBEq, Int.cast_ofNat_Int, decide_true, decide_false, ne_eq, eq_self, implies_true, dc22_r0, dc22_r1, dc22_r2, dc22_r3, dc22_r4, dc22_r5, dc22_r6, dc22_r7, dc22_r8, dc22_r9, dc22_r10, dc22_r11, dc22_r12, dc22_r13, dc22_r14, dc22_r15, dc22_r16, dc22_r17, dc22_r18, dc22_r19, dc22_r20, dc22, DL.dI, DL.dB, DL.dS, DL.dI, h0, h1, h15, h16, h7, ht, ints_len]
      refine onB_i (fun e => ?_) (fun e => ?_)
      · have e' : ¬ w[k] = a := by simpa using e
        simp -dsimp -implicitDefEqProofs (maxSteps := 1000000) (disch := first | omega | (simp only [List.length_append, List.length_cons, List.length_nil]; omega) | (intros; simp only [ne_eq, reduceCtorEq, not_false_eq_true] <;> fail)) only [DL.R, Nat.reduceEqDiff, ↓reduceIte, reduceCtorEq, Int.reduceToNat, Int.reduceLE, Int.reduceLT, Nat.reduceLeDiff, Nat.reduceAdd, Nat.reduceMul, Int.reduceBNe, Int.reduceBEq, Int.cast_ofNat_Int, decide_true, decide_false, ne_eq, eq_self, implies_true, dc22_r0, dc22_r1, dc22_r2, dc22_r3, dc22_r4, dc22_r5, dc22_r6, dc22_r7, dc22_r8, dc22_r9, dc22_r10, dc22_r11, dc22_r12, dc22_r13, dc22_r14, dc22_r15, dc22_r16, dc22_r17, dc22_r18, dc22_r19, dc22_r20, dc22, DL.dI, DL.dB, DL.dS, DL.dI, h0, h1, h15, h16, h7, ht, ints_len, put_keys, DL.wrap_id]
        refine ⟨rfl, keys_ok _, c', ⟨mv + 1, ?_⟩⟩
        rw [htake, appr_snoc]
        simp [e']
      · have e' : w[k] = a := by simpa using e
        simp -dsimp -implicitDefEqProofs (maxSteps := 1000000) (disch := first | omega | (simp only [List.length_append, List.length_cons, List.length_nil]; omega) | (intros; simp only [ne_eq, reduceCtorEq, not_false_eq_true] <;> fail)) only [DL.R, Nat.reduceEqDiff, ↓reduceIte, reduceCtorEq, Int.reduceToNat, Int.reduceLE, Int.reduceLT, Nat.reduceLeDiff, Nat.reduceAdd, Nat.reduceMul, Int.reduceBNe, Int.reduceBEq, Int.cast_ofNat_Int, decide_true, decide_false, ne_eq, eq_self, implies_true, dc22_r0, dc22_r1, dc22_r2, dc22_r3, dc22_r4, dc22_r5, dc22_r6, dc22_r7, dc22_r8, dc22_r9, dc22_r10, dc22_r11, dc22_r12, dc22_r13, dc22_r14, dc22_r15, dc22_r16, dc22_r17, dc22_r18, dc22_r19, dc22_r20, dc22, DL.dI, DL.dB, DL.dS, DL.dI, h0, h1, h15, h16, h7, ht, ints_len, DL.wrap_id]
        refine ⟨c', mv, ?_⟩
        rw [htake, appr_snoc]
        simp [e']
    · have c' : w.take k = w := List.take_of_length_le (by simp at c; omega)
      rw [c']
      simp -dsimp -implicitDefEqProofs (maxSteps := 1000000) (disch := first | omega | (simp only [List.length_append, List.length_cons, List.length_nil]; omega) | (intros; simp only [ne_eq, reduceCtorEq, not_false_eq_true] <;> fail)) only [DL.R, Nat.reduceEqDiff, ↓reduceIte, reduceCtorEq, Int.reduceToNat, Int.reduceLE, Int.reduceLT, Nat.reduceLeDiff, Nat.reduceAdd, Nat.reduceMul, Int.reduceBNe, Int.reduceBEq, Int.cast_ofNat_Int, decide_true, decide_false, ne_eq, eq_self, implies_true, dc22_r0, dc22_r1, dc22_r2, dc22_r3, dc22_r4, dc22_r5, dc22_r6, dc22_r7, dc22_r8, dc22_r9, dc22_r10, dc22_r11, dc22_r12, dc22_r13, dc22_r14, dc22_r15, dc22_r16, dc22_r17, dc22_r18, dc22_r19, dc22_r20, dc22, DL.dI, DL.dB, DL.dS, DL.dI, h0, h1, h15, h16, h7, ht, ints_len, rules_len]
      refine for_i 29 l.length (fun k s' H' => (∃ mv Gs, H' = H ++ (.map mv (keysE (appr a [] w)) :: Gs)) ∧ s' 1 = dI a ∧ s' 27 = .sl (rulesD l) ∧ s' 28 = dI l.length ∧ s' 7 = .mp H.length ∧ ∀ j, j < k → ∀ h : j < l.length, (l[j]'h).n ≤ cnt a w (l[j]'h).who) ?_ ?_ ?_
      · simp -dsimp -implicitDefEqProofs (maxSteps := 1000000) (disch := first | omega | (simp only [List.length_append, List.length_cons, List.length_nil]; omega) | (intros; simp only [ne_eq, reduceCtorEq, not_false_eq_true] <;> fail)) only [DL.R, Nat.reduceEqDiff, ↓reduceIte, reduceCtorEq, Int.reduceToNat, Int.reduceLE, Int.reduceLT, Nat.reduceLeDiff, Nat.reduceAdd, Nat.reduceMul, Int.reduceBNe, Int.reduceBEq, Int.cast_ofNat_Int, decide_true, decide_false, ne_eq, eq_self, implies_true, DL.dI, DL.dB, DL.dS]
      · simp -dsimp -implicitDefEqProofs (maxSteps := 1000000) (disch := first | omega | (simp only [List.length_append, List.length_cons, List.length_nil]; omega) | (intros; simp only [ne_eq, reduceCtorEq, not_false_eq_true] <;> fail)) only [DL.R, Nat.reduceEqDiff, ↓reduceIte, reduceCtorEq, Int.reduceToNat, Int.reduceLE, Int.reduceLT, Nat.reduceLeDiff, Nat.reduceAdd, Nat.reduceMul, Int.reduceBNe, Int.reduceBEq, Int.cast_ofNat_Int, decide_true, decide_false, ne_eq, eq_self, implies_true, DL.dI, DL.dB, DL.dS, DL.dI, h7, h1]
        exact ⟨⟨mv, [], rfl⟩, fun j hj => by omega⟩
      · rintro k s' H' hk ht ⟨⟨mv, Gs, rfl⟩, h1, h27, h28, h7, hP⟩
        simp -dsimp -implicitDefEqProofs (maxSteps := 1000000) (disch := first | omega | (simp only [List.length_append, List.length_cons, List.length_nil]; omega) | (intros; simp only [ne_eq, reduceCtorEq, not_false_eq_true] <;> fail)) only [DL.R, Nat.reduceEqDiff, ↓reduceIte, reduceCtorEq, Int.reduceToNat, Int.reduceLE, Int.reduceLT, Nat.reduceLeDiff, Nat.reduceAdd, Nat.reduceMul, Int.reduceBNe, Int.reduceBEq, Int.cast_ofNat_Int, decide_true, decide_false, ne_eq, eq_self, implies_true, dc22_r0, dc22_r1, dc22_r2, dc22_r3, dc22_r4, dc22_r5, dc22_r6, dc22_r7, dc22_r8, dc22_r9, dc22_r10, dc22_r11, dc22_r12, dc22_r13, dc22_r14, dc22_r15, dc22_r16, dc22_r17, dc22_r18, dc22_r19, dc22_r20, dc22, DL.dI, DL.dB, DL.dS, DL.dI, h1, h27, h28, h7, ht, rules_len]
        refine onB_i (fun c => ?_) (fun c => ?_)
        · have c' : k < l.length := by simpa using c
          simp -dsimp -implicitDefEqProofs (maxSteps := 1000000) (disch := first | omega | (simp only [List.length_append, List.length_cons, List.length_nil]; omega) | (intros; simp only [ne_eq, reduceCtorEq, not_false_eq_true] <;> fail)) only [DL.R, Nat.reduceEqDiff, ↓reduceIte, reduceCtorEq, Int.reduceToNat, Int.reduceLE, Int.reduceLT, Nat.reduceLeDiff, Nat.reduceAdd, Nat.reduceMul, Int.reduceBNe, Int.reduceBEq, Int.cast_ofNat_Int, decide_true, decide_false, ne_eq, eq_self, implies_true, dc22_r0, dc22_r1, dc22_r2, dc22_r3, dc22_r4, dc22_r5, dc22_r6, dc22_r7, dc22_r8, dc22_r9, dc22_r10, dc22_r11, dc22_r12, dc22_r13, dc22_r14, dc22_r15, dc22_r16, dc22_r17, dc22_r18, dc22_r19, dc22_r20, dc22, DL.dI, DL.dB, DL.dS, DL.dI, h1, h27, h28, h7, ht, rules_len]
          refine onIdx_i (by omega) (by simpa using rules_get c') ?_
          generalize hrr : l[k] = r
          obtain ⟨rw, rm, rn, rwho⟩ := r
          simp -dsimp -implicitDefEqProofs (maxSteps := 1000000) (disch := first | omega | (simp only [List.length_append, List.length_cons, List.length_nil]; omega) | (intros; simp only [ne_eq, reduceCtorEq, not_false_eq_true] <;> fail)) only [DL.R, Nat.reduceEqDiff, ↓reduceIte, reduceCtorEq, Int.reduceToNat, Int.reduceLE, Int.reduceLT, Nat.reduceLeDiff, Nat.reduceAdd, Nat.reduceMul, Int.reduceBNe, Int.reduceBEq, Int.cast_ofNat_Int, decide_true, decide_false, ne_eq, eq_self, implies_true, dc22_r0, dc22_r1, dc22_r2, dc22_r3, dc22_r4, dc22_r5, dc22_r6, dc22_r7, dc22_r8, dc22_r9, dc22_r10, dc22_r11, dc22_r12, dc22_r13, dc22_r14, dc22_r15, dc22_r16, dc22_r17, dc22_r18, dc22_r19, dc22_r20, dc22, DL.dI, DL.dB, DL.dS, DL.dI, DL.dS, h1, h27, h28, h7, ht, rules_len, ruleD, ruleL]
          have hwho : rwho.length ≤ 1099511627776 := by have := hr _ (List.getElem_mem c'); rw [hrr] at this; exact this
          have happ := appr_len a w []
          simp only [List.length_nil, Nat.zero_add] at happ
          refine loop_i (fun s'' H'' => ∃ left cur, ∃ c : Nat, H'' = H ++ (.map mv (keysE (appr a [] w)) :: (Gs ++ [.box 42 [dS rw, dS rm, dI rn, .sl (ints rwho)], .iter H.length mv left cur])) ∧ s'' 1 = dI a ∧ s'' 27 = .sl (rulesD l) ∧ s'' 28 = dI l.length ∧ s'' 7 = .mp H.length ∧
              s'' 29 = dI k ∧ s'' 11 = .ptr (H.length + (Gs.length + 1)) 0 ∧ s'' 34 = .it (H.length + (Gs.length + 1 + 1)) ∧ s'' 12 = dI c ∧ c + hit rwho left = cnt a w rwho ∧ c + left.length ≤ 1099511627776 ∧ ∀ p ∈ left, ∃ n, p.1 = .int .i64 n)
            (fun _ H'' => match H''[H.length + (Gs.length + 1 + 1)]? with | some (.iter _ _ left _) => left.length | _ => 0) ?_ ?_
          · refine ⟨keysE (appr a [] w), none, 0, ?_⟩
            simp -dsimp -implicitDefEqProofs (maxSteps := 1000000) (disch := first | omega | (simp only [List.length_append, List.length_cons, List.length_nil]; omega) | (intros; simp only [ne_eq, reduceCtorEq, not_false_eq_true] <;> fail)) only [DL.R, Nat.reduceEqDiff, ↓reduceIte, reduceCtorEq, Int.reduceToNat, Int.reduceLE, Int.reduceLT, Nat.reduceLeDiff, Nat.reduceAdd, Nat.reduceMul, Int.reduceBNe, Int.reduceBEq, Int.cast_ofNat_Int, decide_true, decide_false, ne_eq, eq_self, implies_true, dc22_r0, dc22_r1, dc22_r2, dc22_r3, dc22_r4, dc22_r5, dc22_r6, dc22_r7, dc22_r8, dc22_r9, dc22_r10, dc22_r11, dc22_r12, dc22_r13, dc22_r14, dc22_r15, dc22_r16, dc22_r17, dc22_r18, dc22_r19, dc22_r20, dc22, DL.dI, DL.dB, DL.dS, DL.dI, DL.dS, h1, h27, h28, h7, ht, rules_len]
            refine ⟨?_, by simp [keysE]; omega, fun p hp => ?_⟩
            · rw [hit_keys]; simp [cnt]
            · obtain ⟨n, _, rfl⟩ := List.mem_map.1 hp
              exact ⟨n, rfl⟩
          · rintro s'' H'' ⟨left, cur, cc, rfl, g1, g27, g28, g7, g29, g11, g34, g12, gc, gb, gk⟩
            simp -dsimp -implicitDefEqProofs (maxSteps := 1000000) (disch := first | omega | (simp only [List.length_append, List.length_cons, List.length_nil]; omega) | (intros; simp only [ne_eq, reduceCtorEq, not_false_eq_true] <;> fail)) only [DL.R, Nat.reduceEqDiff, ↓reduceIte, reduceCtorEq, Int.reduceToNat, Int.reduceLE, Int.reduceLT, Nat.reduceLeDiff, Nat.reduceAdd, Nat.reduceMul, Int.reduceBNe, Int.reduceBEq, Int.cast_ofNat_Int, decide_true, decide_false, ne_eq, eq_self, implies_true, dc22_r0, dc22_r1, dc22_r2, dc22_r3, dc22_r4, dc22_r5, dc22_r6, dc22_r7, dc22_r8, dc22_r9, dc22_r10, dc22_r11, dc22_r12, dc22_r13, dc22_r14, dc22_r15, dc22_r16, dc22_r17, dc22_r18, dc22_r19, dc22_r20, dc22, DL.dI, DL.dB, DL.dS, DL.dI, DL.dS, g1, g27, g28, g7, g29, g11, g34, g12]
            refine step_i (fun hl0 => ?_) (fun i hi => ?_)
            · subst hl0
              have gc' : cc = cnt a w rwho := by simpa [hit] using gc
              simp -dsimp -implicitDefEqProofs (maxSteps := 1000000) (disch := first | omega | (simp only [List.length_append, List.length_cons, List.length_nil]; omega) | (intros; simp only [ne_eq, reduceCtorEq, not_false_eq_true] <;> fail)) only [DL.R, Nat.reduceEqDiff, ↓reduceIte, reduceCtorEq, Int.reduceToNat, Int.reduceLE, Int.reduceLT, Nat.reduceLeDiff, Nat.reduceAdd, Nat.reduceMul, Int.reduceBNe, Int.reduceBEq, Int.cast_ofNat_Int, decide_true, decide_false, ne_eq, eq_self, implies_true, dc22_r0, dc22_r1, dc22_r2, dc22_r3, dc22_r4, dc22_r5, dc22_r6, dc22_r7, dc22_r8, dc22_r9, dc22_r10, dc22_r11, dc22_r12, dc22_r13, dc22_r14, dc22_r15, dc22_r16, dc22_r17, dc22_r18, dc22_r19, dc22_r20, dc22, DL.dI, DL.dB, DL.dS, DL.dI, DL.dS, g1, g27, g28, g7, g29, g11, g34, g12]
              refine onB_i (fun e => ?_) (fun e => ?_)
              · have e' : (cc : Int) < rn := by simpa using e
                simp -dsimp -implicitDefEqProofs (maxSteps := 1000000) (disch := first | omega | (simp only [List.length_append, List.length_cons, List.length_nil]; omega) | (intros; simp only [ne_eq, reduceCtorEq, not_false_eq_true] <;> fail)) only [DL.R, Nat.reduceEqDiff, ↓reduceIte, reduceCtorEq, Int.reduceToNat, Int.reduceLE, Int.reduceLT, Nat.reduceLeDiff, Nat.reduceAdd, Nat.reduceMul, Int.reduceBNe, Int.reduceBEq, Int.cast_ofNat_Int, decide_true, decide_false, ne_eq, eq_self, implies_true, dc22_r0, dc22_r1, dc22_r2, dc22_r3, dc22_r4, dc22_r5, dc22_r6, dc22_r7, dc22_r8, dc22_r9, dc22_r10, dc22_r11, dc22_r12, dc22_r13, dc22_r14, dc22_r15, dc22_r16, dc22_r17, dc22_r18, dc22_r19, dc22_r20, dc22, DL.dI, DL.dB, DL.dS, DL.dI, DL.dS, g1, g27, g28, g7, g29, g11, g34, g12]
                refine ⟨_, rfl, .lit _, ?_⟩
                have : enough l a w = false := by
                  rw [← Bool.not_eq_true, enough, List.all_eq_true]
                  intro q
                  have := q _ (List.getElem_mem c')
                  rw [hrr] at this
                  simp at this; omega
                rw [this] at hQ; exact hQ
              · have e' : ¬ (cc : Int) < rn := by simpa using e
                simp -dsimp -implicitDefEqProofs (maxSteps := 1000000) (disch := first | omega | (simp only [List.length_append, List.length_cons, List.length_nil]; omega) | (intros; simp only [ne_eq, reduceCtorEq, not_false_eq_true] <;> fail)) only [DL.R, Nat.reduceEqDiff, ↓reduceIte, reduceCtorEq, Int.reduceToNat, Int.reduceLE, Int.reduceLT, Nat.reduceLeDiff, Nat.reduceAdd, Nat.reduceMul, Int.reduceBNe, Int.reduceBEq, Int.cast_ofNat_Int, decide_true, decide_false, ne_eq, eq_self, implies_true, dc22_r0, dc22_r1, dc22_r2, dc22_r3, dc22_r4, dc22_r5, dc22_r6, dc22_r7, dc22_r8, dc22_r9, dc22_r10, dc22_r11, dc22_r12, dc22_r13, dc22_r14, dc22_r15, dc22_r16, dc22_r17, dc22_r18, dc22_r19, dc22_r20, dc22, DL.dI, DL.dB, DL.dS, DL.dI, DL.dS, g1, g27, g28, g7, g29, g11, g34, g12, DL.wrap_id]
                refine ⟨c', ⟨mv, _, rfl⟩, fun j hj hjl => ?_⟩
                by_cases hjk : j < k
                · exact hP j hjk hjl
                · have : j = k := by omega
                  subst this; rw [hrr]; simp; omega
            · have he := hit_erase rwho (left[i]) left i hi rfl
              have hlen := List.length_eraseIdx_of_lt hi
              have hmem : ∀ p ∈ left.eraseIdx i, ∃ n, p.1 = .int .i64 n := fun p hp => gk p (List.mem_of_mem_eraseIdx hp)
              obtain ⟨n, hn⟩ := gk (left[i]) (List.getElem_mem hi)
              generalize left[i] = p at he hn
              obtain ⟨pk, pd⟩ := p
              simp only at hn
              subst hn
              have hg : Gs.length + 1 < (Gs ++ [O.box 42 [dS rw, dS rm, dI rn, .sl (ints rwho)], O.iter H.length mv left cur]).length := by simp
              have hset : (Gs ++ [O.box 42 [D.lit (.string rw), D.lit (.string rm), D.lit (.int .i64 rn), .sl (ints rwho)], O.iter H.length mv left cur]).set (Gs.length + 1) (O.iter H.length mv (left.eraseIdx i) (some (.int .i64 n, pd))) = Gs ++ [O.box 42 [D.lit (.string rw), D.lit (.string rm), D.lit (.int .i64 rn), .sl (ints rwho)], O.iter H.length mv (left.eraseIdx i) (some (.int .i64 n, pd))] := by
                rw [set_own]; rfl
              simp -dsimp -implicitDefEqProofs (maxSteps := 1000000) (disch := first | omega | (simp only [List.length_append, List.length_cons, List.length_nil]; omega) | (intros; simp only [ne_eq, reduceCtorEq, not_false_eq_true] <;> fail)) only [DL.R, Nat.reduceEqDiff, ↓reduceIte, reduceCtorEq, Int.reduceToNat, Int.reduceLE, Int.reduceLT, Nat.reduceLeDiff, Nat.reduceAdd, Nat.reduceMul, Int.reduceBNe, Int.reduceBEq, Int.cast_ofNat_Int, decide_true, decide_false, ne_eq, eq_self, implies_true, dc22_r0, dc22_r1, dc22_r2, dc22_r3, dc22_r4, dc22_r5, dc22_r6, dc22_r7, dc22_r8, dc22_r9, dc22_r10, dc22_r11, dc22_r12, dc22_r13, dc22_r14, dc22_r15, dc22_r16, dc22_r17, dc22_r18, dc22_r19, dc22_r20, dc22, DL.dI, DL.dB, DL.dS, DL.dI, DL.dS, g1, g27, g28, g7, g29, g11, g34, g12, hset]
              refine contains_spec _ _ (by omega) ?_
              simp -dsimp -implicitDefEqProofs (maxSteps := 1000000) (disch := first | omega | (simp only [List.length_append, List.length_cons, List.length_nil]; omega) | (intros; simp only [ne_eq, reduceCtorEq, not_false_eq_true] <;> fail)) only [DL.R, Nat.reduceEqDiff, ↓reduceIte, reduceCtorEq, Int.reduceToNat, Int.reduceLE, Int.reduceLT, Nat.reduceLeDiff, Nat.reduceAdd, Nat.reduceMul, Int.reduceBNe, Int.reduceBEq, Int.cast_ofNat_Int, decide_true, decide_false, ne_eq, eq_self, implies_true, dc22_r0, dc22_r1, dc22_r2, dc22_r3, dc22_r4, dc22_r5, dc22_r6, dc22_r7, dc22_r8, dc22_r9, dc22_r10, dc22_r11, dc22_r12, dc22_r13, dc22_r14, dc22_r15, dc22_r16, dc22_r17, dc22_r18, dc22_r19, dc22_r20, dc22, DL.dI, DL.dB, DL.dS, DL.dI, DL.dS, DL.dB, g1, g27, g28, g7, g29, g11, g34, g12]
              refine onB_i (fun e => ?_) (fun e => ?_)
              · have e' : hp rwho (.int .i64 n, pd) = true := e
                rw [if_pos e'] at he
                simp -dsimp -implicitDefEqProofs (maxSteps := 1000000) (disch := first | omega | (simp only [List.length_append, List.length_cons, List.length_nil]; omega) | (intros; simp only [ne_eq, reduceCtorEq, not_false_eq_true] <;> fail)) only [DL.R, Nat.reduceEqDiff, ↓reduceIte, reduceCtorEq, Int.reduceToNat, Int.reduceLE, Int.reduceLT, Nat.reduceLeDiff, Nat.reduceAdd, Nat.reduceMul, Int.reduceBNe, Int.reduceBEq, Int.cast_ofNat_Int, decide_true, decide_false, ne_eq, eq_self, implies_true, dc22_r0, dc22_r1, dc22_r2, dc22_r3, dc22_r4, dc22_r5, dc22_r6, dc22_r7, dc22_r8, dc22_r9, dc22_r10, dc22_r11, dc22_r12, dc22_r13, dc22_r14, dc22_r15, dc22_r16, dc22_r17, dc22_r18, dc22_r19, dc22_r20, dc22, DL.dI, DL.dB, DL.dS, DL.dI, DL.dS, DL.dB, g1, g27, g28, g7, g29, g11, g34, g12, DL.wrap_id]
                refine ⟨⟨left.eraseIdx i, _, cc + 1, rfl, by simp, by omega, by omega, hmem⟩, by omega⟩
              · have e' : ¬ hp rwho (.int .i64 n, pd) = true := by rw [Bool.not_eq_true]; exact e
                rw [if_neg e'] at he
                simp -dsimp -implicitDefEqProofs (maxSteps := 1000000) (disch := first | omega | (simp only [List.length_append, List.length_cons, List.length_nil]; omega) | (intros; simp only [ne_eq, reduceCtorEq, not_false_eq_true] <;> fail)) only [DL.R, Nat.reduceEqDiff, ↓reduceIte, reduceCtorEq, Int.reduceToNat, Int.reduceLE, Int.reduceLT, Nat.reduceLeDiff, Nat.reduceAdd, Nat.reduceMul, Int.reduceBNe, Int.reduceBEq, Int.cast_ofNat_Int, decide_true, decide_false, ne_eq, eq_self, implies_true, dc22_r0, dc22_r1, dc22_r2, dc22_r3, dc22_r4, dc22_r5, dc22_r6, dc22_r7, dc22_r8, dc22_r9, dc22_r10, dc22_r11, dc22_r12, dc22_r13, dc22_r14, dc22_r15, dc22_r16, dc22_r17, dc22_r18, dc22_r19, dc22_r20, dc22, DL.dI, DL.dB, DL.dS, DL.dI, DL.dS, DL.dB, g1, g27, g28, g7, g29, g11, g34, g12, DL.wrap_id]
                refine ⟨⟨left.eraseIdx i, _, cc, rfl, rfl, by omega, by omega, hmem⟩, by omega⟩
        · have c' : ¬ k < l.length := by simpa using c
          simp -dsimp -implicitDefEqProofs (maxSteps := 1000000) (disch := first | omega | (simp only [List.length_append, List.length_cons, List.length_nil]; omega) | (intros; simp only [ne_eq, reduceCtorEq, not_false_eq_true] <;> fail)) only [DL.R, Nat.reduceEqDiff, ↓reduceIte, reduceCtorEq, Int.reduceToNat, Int.reduceLE, Int.reduceLT, Nat.reduceLeDiff, Nat.reduceAdd, Nat.reduceMul, Int.reduceBNe, Int.reduceBEq, Int.cast_ofNat_Int, decide_true, decide_false, ne_eq, eq_self, implies_true, dc22_r0, dc22_r1, dc22_r2, dc22_r3, dc22_r4, dc22_r5, dc22_r6, dc22_r7, dc22_r8, dc22_r9, dc22_r10, dc22_r11, dc22_r12, dc22_r13, dc22_r14, dc22_r15, dc22_r16, dc22_r17, dc22_r18, dc22_r19, dc22_r20, dc22, DL.dI, DL.dB, DL.dS, DL.dI, h1, h27, h28, h7, ht, rules_len]
          refine ⟨_, rfl, .lit _, ?_⟩
          have : enough l a w = true := by
            rw [enough, List.all_eq_true]
            intro r hm
            obtain ⟨j, hj, rfl⟩ := List.mem_iff_getElem.1 hm
            simpa using hP j (by omega) hj
          rw [this] at hQ; exact hQ
end Go.Proofs.Tryd
set_option maxRecDepth 100000
set_option linter.unusedSimpArgs false
set_option linter.unusedVariables false
namespace Go.Proofs.Tryd
open Go Go.DL
variable {G : Nat → D} {H : List O} {Q : D → List O → Prop}
def sameRule (r q : Rule) : Bool := (r.what.toList == q.what.toList) && (r.mod.toList == q.mod.toList) && (r.n == q.n) && (r.who == q.who)
def sameRules (a b : List Rule) : Bool := a.length == b.length && (a.zip b).all fun p => sameRule p.1 p.2
theorem sameRules_spec (a b : List Rule) (hb : a.length ≤ 1099511627776) (hw : ∀ r ∈ a, r.who.length ≤ 1099511627776) (hQ : Q (dB (sameRules a b)) H) : CallA Tryd.prog G 16 [.sl (rulesD a), .sl (rulesD b)] H Q := by
  refine s16 (Nat.le_of_ble_eq_true rfl) ?_
  simp -dsimp -implicitDefEqProofs (maxSteps := 1000000) (disch := first | omega | (simp only [List.length_append, List.length_cons, List.length_nil]; omega) | (intros; simp only [ne_eq, reduceCtorEq, not_false_eq_true] <;> fail)) only [DL.R, Nat.reduceEqDiff, ↓reduceIte, reduceCtorEq, Int.reduceToNat, Int.reduceLE, Int.reduceLT, Nat.reduceLeDiff, Nat.reduceAdd, Nat.reduceMul, Int.reduceBNe, Int.reduceBEq, Int.cast_ofNat_Int, decide_true, decide_false, ne_eq, eq_self, implies_true, dc16_r0, dc16_r1, dc16_r2, dc16_r3, dc16_r4, dc16_r6, dc16_r7, dc16_r5, dc16_r8, dc16, DL.dI, DL.dB, DL.dS, DL.dI, DL.dB, DL.dS, rules_len]
  refine onB_i (fun c => ?_) (fun c => ?_)
  · simp -dsimp -implicitDefEqProofs (maxSteps := 1000000) (disch := first | omega | (simp only [List.length_append, List.length_cons, List.length_nil]; omega) | (intros; simp only [ne_eq, reduceCtorEq, not_false_eq_true] <;> fail)) only [DL.R, Nat.reduceEqDiff, ↓reduceIte, reduceCtorEq, Int.reduceToNat, Int.reduceLE, Int.reduceLT, Nat.reduceLeDiff, Nat.reduceAdd, Nat.reduceMul, Int.reduceBNe, Int.reduceBEq, Int.cast_ofNat_Int, decide_true, decide_false, ne_eq, eq_self, implies_true, dc16_r0, dc16_r1, dc16_r2, dc16_r3, dc16_r4, dc16_r6, dc16_r7, dc16_r5, dc16_r8, dc16, DL.dI, DL.dB, DL.dS]
    have c' : a.length ≠ b.length := by simp at c; omega
    have : sameRules a b = false := by simp [sameRules, c']
    rw [this] at hQ; exact hQ
  have c' : a.length = b.length := by simp at c; omega
  simp -dsimp -implicitDefEqProofs (maxSteps := 1000000) (disch := first | omega | (simp only [List.length_append, List.length_cons, List.length_nil]; omega) | (intros; simp only [ne_eq, reduceCtorEq, not_false_eq_true] <;> fail)) only [DL.R, Nat.reduceEqDiff, ↓reduceIte, reduceCtorEq, Int.reduceToNat, Int.reduceLE, Int.reduceLT, Nat.reduceLeDiff, Nat.reduceAdd, Nat.reduceMul, Int.reduceBNe, Int.reduceBEq, Int.cast_ofNat_Int, decide_true, decide_false, ne_eq, eq_self, implies_true, dc16_r0, dc16_r1, dc16_r2, dc16_r3, dc16_r4, dc16_r6, dc16_r7, dc16_r5, dc16_r8, dc16, DL.dI, DL.dB, DL.dS]
  refine for_i 5 a.length (fun k s' H' => H' = H ∧ s' 0 = .sl (rulesD a) ∧ s' 1 = .sl (rulesD b) ∧ ∀ j, j < k → ∀ (h : j < a.length) (h' : j < b.length), sameRule (a[j]'h) (b[j]'h') = true) ?_ ?_ ?_
  · simp -dsimp -implicitDefEqProofs (maxSteps := 1000000) (disch := first | omega | (simp only [List.length_append, List.length_cons, List.length_nil]; omega) | (intros; simp only [ne_eq, reduceCtorEq, not_false_eq_true] <;> fail)) only [DL.R, Nat.reduceEqDiff, ↓reduceIte, reduceCtorEq, Int.reduceToNat, Int.reduceLE, Int.reduceLT, Nat.reduceLeDiff, Nat.reduceAdd, Nat.reduceMul, Int.reduceBNe, Int.reduceBEq, Int.cast_ofNat_Int, decide_true, decide_false, ne_eq, eq_self, implies_true, DL.dI, DL.dB, DL.dS]
  · simp -dsimp -implicitDefEqProofs (maxSteps := 1000000) (disch := first | omega | (simp only [List.length_append, List.length_cons, List.length_nil]; omega) | (intros; simp only [ne_eq, reduceCtorEq, not_false_eq_true] <;> fail)) only [DL.R, Nat.reduceEqDiff, ↓reduceIte, reduceCtorEq, Int.reduceToNat, Int.reduceLE, Int.reduceLT, Nat.reduceLeDiff, Nat.reduceAdd, Nat.reduceMul, Int.reduceBNe, Int.reduceBEq, Int.cast_ofNat_Int, decide_true, decide_false, ne_eq, eq_self, implies_true, DL.dI, DL.dB, DL.dS, DL.dI]
    exact fun j hj => absurd hj (by omega)
  · rintro k s' H' hk ht ⟨rfl, h0, h1, hP⟩
    simp -dsimp -implicitDefEqProofs (maxSteps := 1000000) (disch := first | omega | (simp only [List.length_append, List.length_cons, List.length_nil]; omega) | (intros; simp only [ne_eq, reduceCtorEq, not_false_eq_true] <;> fail)) only [DL.R, Nat.reduceEqDiff, ↓reduceIte, reduceCtorEq, Int.reduceToNat, Int.reduceLE, Int.reduceLT, Nat.reduceLeDiff, Nat.reduceAdd, Nat.reduceMul, Int.reduceBNe, Int.reduceBEq, Int.cast_ofNat_Int, decide_true, decide_false, ne_eq, eq_self, implies_true, dc16_r0, dc16_r1, dc16_r2, dc16_r3, dc16_r4, dc16_r6, dc16_r7, dc16_r5, dc16_r8, dc16, DL.dI, DL.dB, DL.dS, DL.dI, h0, h1, ht, rules_len]
    refine onB_i (fun c => ?_) (fun c => ?_)
    · have c1 : k < a.length := by simpa using c
      have c2 : k < b.length := by omega
      simp -dsimp -implicitDefEqProofs (maxSteps := 1000000) (disch := first | omega | (simp only [List.length_append, List.length_cons, List.length_nil]; omega) | (intros; simp only [ne_eq, reduceCtorEq, not_false_eq_true] <;> fail)) only [DL.R, Nat.reduceEqDiff, ↓reduceIte, reduceCtorEq, Int.reduceToNat, Int.reduceLE, Int.reduceLT, Nat.reduceLeDiff, Nat.reduceAdd, Nat.reduceMul, Int.reduceBNe, Int.reduceBEq, Int.cast_ofNat_Int, decide_true, decide_false, ne_eq, eq_self, implies_true, dc16_r0, dc16_r1, dc16_r2, dc16_r3, dc16_r4, dc16_r6, dc16_r7, dc16_r5, dc16_r8, dc16, DL.dI, DL.dB, DL.dS, DL.dI, h0, h1, ht, rules_len]
      have hwk := hw _ (List.getElem_mem c1)
      refine onIdx_i (by omega) (by simpa using rules_get c1) ?_
      have hPk : ∀ j, j < k + 1 → sameRule a[k] b[k] = true → ∀ (h : j < a.length) (h' : j < b.length), sameRule (a[j]'h) (b[j]'h') = true := fun j hj hs h h' => by
        by_cases hjk : j < k
        · exact hP j hjk h h'
        · have : j = k := by omega
          subst this; exact hs
      have hno : sameRule a[k] b[k] = false → sameRules a b = false := fun hs => by
        rw [← Bool.not_eq_true]
        intro q
        simp only [sameRules, Bool.and_eq_true, List.all_eq_true] at q
        have := q.2 (a[k], b[k]) (List.mem_iff_getElem.2 ⟨k, by simp; omega, by simp⟩)
        rw [hs] at this; cases this
      have ga := rules_get c1
      have gb := rules_get c2
      generalize a[k] = r at *
      obtain ⟨rw1, rm, rn, rwho⟩ := r
      simp -dsimp -implicitDefEqProofs (maxSteps := 1000000) (disch := first | omega | (simp only [List.length_append, List.length_cons, List.length_nil]; omega) | (intros; simp only [ne_eq, reduceCtorEq, not_false_eq_true] <;> fail)) only [DL.R, Nat.reduceEqDiff, ↓reduceIte, reduceCtorEq, Int.reduceToNat, Int.reduceLE, Int.reduceLT, Nat.reduceLeDiff, Nat.reduceAdd, Nat.reduceMul, Int.reduceBNe, Int.reduceBEq, Int.cast_ofNat_Int, decide_true, decide_false, ne_eq, eq_self, implies_true, dc16_r0, dc16_r1, dc16_r2, dc16_r3, dc16_r4, dc16_r6, dc16_r7, dc16_r5, dc16_r8, dc16, DL.dI, DL.dB, DL.dS, DL.dI, DL.dS, h0, h1, ht, rules_len, ruleD, ruleL]
      refine onIdx_i (by omega) (by simpa using gb) ?_
      generalize b[k] = q at *
      obtain ⟨qw, qm, qn, qwho⟩ := q
      simp only [ruleD, ruleL, dS, dI] at ga gb
      have out : ∀ x : Bool, sameRule ⟨rw1, rm, rn, rwho⟩ ⟨qw, qm, qn, qwho⟩ = x → x = false → Q (dB false) H' := fun x q e => by
        rw [hno (by rw [q, e])] at hQ; exact hQ
      simp -dsimp -implicitDefEqProofs (maxSteps := 1000000) (disch := first | omega | (simp only [List.length_append, List.length_cons, List.length_nil]; omega) | (intros; simp only [ne_eq, reduceCtorEq, not_false_eq_true] <;> fail)) only [DL.R, Nat.reduceEqDiff, ↓reduceIte, reduceCtorEq, Int.reduceToNat, Int.reduceLE, Int.reduceLT, Nat.reduceLeDiff, Nat.reduceAdd, Nat.reduceMul, Int.reduceBNe, Int.reduceBEq, Int.cast_ofNat_Int, decide_true, decide_false, ne_eq, eq_self, implies_true, dc16_r0, dc16_r1, dc16_r2, dc16_r3, dc16_r4, dc16_r6, dc16_r7, dc16_r5, dc16_r8, dc16, DL.dI, DL.dB, DL.dS, DL.dI, DL.dS, h0, h1, ht, rules_len, ruleD, ruleL]
      refine onG_i (fun e1 => ?_) (fun e1 => ?_)
      · simp -dsimp -implicitDefEqProofs (maxSteps := 1000000) (disch := first | omega | (simp only [List.length_append, List.length_cons, List.length_nil]; omega) | (intros; simp only [ne_eq, reduceCtorEq, not_false_eq_true] <;> fail)) only [DL.R, Nat.reduceEqDiff, ↓reduceIte, reduceCtorEq, Int.reduceToNat, Int.reduceLE, Int.reduceLT, Nat.reduceLeDiff, Nat.reduceAdd, Nat.reduceMul, Int.reduceBNe, Int.reduceBEq, Int.cast_ofNat_Int, decide_true, decide_false, ne_eq, eq_self, implies_true, dc16_r0, dc16_r1, dc16_r2, dc16_r3, dc16_r4, dc16_r6, dc16_r7, dc16_r5, dc16_r8, dc16, DL.dI, DL.dB, DL.dS, DL.dI, DL.dS, h0, h1, ht]
        refine onIdx_i (by omega) (by simpa using ga) ?_
        simp -dsimp -implicitDefEqProofs (maxSteps := 1000000) (disch := first | omega | (simp only [List.length_append, List.length_cons, List.length_nil]; omega) | (intros; simp only [ne_eq, reduceCtorEq, not_false_eq_true] <;> fail)) only [DL.R, Nat.reduceEqDiff, ↓reduceIte, reduceCtorEq, Int.reduceToNat, Int.reduceLE, Int.reduceLT, Nat.reduceLeDiff, Nat.reduceAdd, Nat.reduceMul, Int.reduceBNe, Int.reduceBEq, Int.cast_ofNat_Int, decide_true, decide_false, ne_eq, eq_self, implies_true, dc16_r0, dc16_r1, dc16_r2, dc16_r3, dc16_r4, dc16_r6, dc16_r7, dc16_r5, dc16_r8, dc16, DL.dI, DL.dB, DL.dS, DL.dI, DL.dS, h0, h1, ht]
        refine onIdx_i (by omega) (by simpa using gb) ?_
        simp -dsimp -implicitDefEqProofs (maxSteps := 1000000) (disch := first | omega | (simp only [List.length_append, List.length_cons, List.length_nil]; omega) | (intros; simp only [ne_eq, reduceCtorEq, not_false_eq_true] <;> fail)) only [DL.R, Nat.reduceEqDiff, ↓reduceIte, reduceCtorEq, Int.reduceToNat, Int.reduceLE, Int.reduceLT, Nat.reduceLeDiff, Nat.reduceAdd, Nat.reduceMul, Int.reduceBNe, Int.reduceBEq, Int.cast_ofNat_Int, decide_true, decide_false, ne_eq, eq_self, implies_true, dc16_r0, dc16_r1, dc16_r2, dc16_r3, dc16_r4, dc16_r6, dc16_r7, dc16_r5, dc16_r8, dc16, DL.dI, DL.dB, DL.dS, DL.dI, DL.dS, h0, h1, ht]
        refine onG_i (fun e2 => ?_) (fun e2 => ?_)
        · simp -dsimp -implicitDefEqProofs (maxSteps := 1000000) (disch := first | omega | (simp only [List.length_append, List.length_cons, List.length_nil]; omega) | (intros; simp only [ne_eq, reduceCtorEq, not_false_eq_true] <;> fail)) only [DL.R, Nat.reduceEqDiff, ↓reduceIte, reduceCtorEq, Int.reduceToNat, Int.reduceLE, Int.reduceLT, Nat.reduceLeDiff, Nat.reduceAdd, Nat.reduceMul, Int.reduceBNe, Int.reduceBEq, Int.cast_ofNat_Int, decide_true, decide_false, ne_eq, eq_self, implies_true, dc16_r0, dc16_r1, dc16_r2, dc16_r3, dc16_r4, dc16_r6, dc16_r7, dc16_r5, dc16_r8, dc16, DL.dI, DL.dB, DL.dS, DL.dI, DL.dS, h0, h1, ht]
          refine onIdx_i (by omega) (by simpa using ga) ?_
          simp -dsimp -implicitDefEqProofs (maxSteps := 1000000) (disch := first | omega | (simp only [List.length_append, List.length_cons, List.length_nil]; omega) | (intros; simp only [ne_eq, reduceCtorEq, not_false_eq_true] <;> fail)) only [DL.R, Nat.reduceEqDiff, ↓reduceIte, reduceCtorEq, Int.reduceToNat, Int.reduceLE, Int.reduceLT, Nat.reduceLeDiff, Nat.reduceAdd, Nat.reduceMul, Int.reduceBNe, Int.reduceBEq, Int.cast_ofNat_Int, decide_true, decide_false, ne_eq, eq_self, implies_true, dc16_r0, dc16_r1, dc16_r2, dc16_r3, dc16_r4, dc16_r6, dc16_r7, dc16_r5, dc16_r8, dc16, DL.dI, DL.dB, DL.dS, DL.dI, DL.dS, h0, h1, ht]
          refine onIdx_i (by omega) (by simpa using gb) ?_
          simp -dsimp -implicitDefEqProofs (maxSteps := 1000000) (disch := first | omega | (simp only [List.length_append, List.length_cons, List.length_nil]; omega) | (intros; simp only [ne_eq, reduceCtorEq, not_false_eq_true] <;> fail)) only [DL.R, Nat.reduceEqDiff, ↓reduceIte, reduceCtorEq, Int.reduceToNat, Int.reduceLE, Int.reduceLT, Nat.reduceLeDiff, Nat.reduceAdd, Nat.reduceMul, Int.reduceBNe, Int.reduceBEq, Int.cast_ofNat_Int, decide_true, decide_false, ne_eq, eq_self, implies_true, dc16_r0, dc16_r1, dc16_r2, dc16_r3, dc16_r4, dc16_r6, dc16_r7, dc16_r5, dc16_r8, dc16, DL.dI, DL.dB, DL.dS, DL.dI, DL.dS, h0, h1, ht]
          refine onG_i (fun e3 => ?_) (fun e3 => ?_)
          · simp -dsimp -implicitDefEqProofs (maxSteps := 1000000) (disch := first | omega | (simp only [List.length_append, List.length_cons, List.length_nil]; omega) | (intros; simp only [ne_eq, reduceCtorEq, not_false_eq_true] <;> fail)) only [DL.R, Nat.reduceEqDiff, ↓reduceIte, reduceCtorEq, Int.reduceToNat, Int.reduceLE, Int.reduceLT, Nat.reduceLeDiff, Nat.reduceAdd, Nat.reduceMul, Int.reduceBNe, Int.reduceBEq, Int.cast_ofNat_Int, decide_true, decide_false, ne_eq, eq_self, implies_true, dc16_r0, dc16_r1, dc16_r2, dc16_r3, dc16_r4, dc16_r6, dc16_r7, dc16_r5, dc16_r8, dc16, DL.dI, DL.dB, DL.dS, DL.dI, DL.dS, h0, h1, ht]
            refine onIdx_i (by omega) (by simpa using ga) ?_
            simp -dsimp -implicitDefEqProofs (maxSteps := 1000000) (disch := first | omega | (simp only [List.length_append, List.length_cons, List.length_nil]; omega) | (intros; simp only [ne_eq, reduceCtorEq, not_false_eq_true] <;> fail)) only [DL.R, Nat.reduceEqDiff, ↓reduceIte, reduceCtorEq, Int.reduceToNat, Int.reduceLE, Int.reduceLT, Nat.reduceLeDiff, Nat.reduceAdd, Nat.reduceMul, Int.reduceBNe, Int.reduceBEq, Int.cast_ofNat_Int, decide_true, decide_false, ne_eq, eq_self, implies_true, dc16_r0, dc16_r1, dc16_r2, dc16_r3, dc16_r4, dc16_r6, dc16_r7, dc16_r5, dc16_r8, dc16, DL.dI, DL.dB, DL.dS, DL.dI, DL.dS, h0, h1, ht]
            refine onIdx_i (by omega) (by simpa using gb) ?_
            simp -dsimp -implicitDefEqProofs (maxSteps := 1000000) (disch := first | omega | (simp only [List.length_append, List.length_cons, List.length_nil]; omega) | (intros; simp only [ne_eq, reduceCtorEq, not_false_eq_true] <;> fail)) only [DL.R, Nat.reduceEqDiff, ↓reduceIte, reduceCtorEq, Int.reduceToNat, Int.reduceLE, Int.reduceLT, Nat.reduceLeDiff, Nat.reduceAdd, Nat.reduceMul, Int.reduceBNe, Int.reduceBEq, Int.cast_ofNat_Int, decide_true, decide_false, ne_eq, eq_self, implies_true, dc16_r0, dc16_r1, dc16_r2, dc16_r3, dc16_r4, dc16_r6, dc16_r7, dc16_r5, dc16_r8, dc16, DL.dI, DL.dB, DL.dS, DL.dI, DL.dS, h0, h1, ht]
            refine callD_i (CA := CallA Tryd.prog G) (f := 34) (caps := []) (args := [.sl (ints rwho), .sl (ints qwho)]) (dB (rwho == qwho)) (fun Q hQ => sameInts_spec rwho qwho (by simp at hwk; omega) hQ) ?_
            simp -dsimp -implicitDefEqProofs (maxSteps := 1000000) (disch := first | omega | (simp only [List.length_append, List.length_cons, List.length_nil]; omega) | (intros; simp only [ne_eq, reduceCtorEq, not_false_eq_true] <;> fail)) only [DL.R, Nat.reduceEqDiff, ↓reduceIte, reduceCtorEq, Int.reduceToNat, Int.reduceLE, Int.reduceLT, Nat.reduceLeDiff, Nat.reduceAdd, Nat.reduceMul, Int.reduceBNe, Int.reduceBEq, Int.cast_ofNat_Int, decide_true, decide_false, ne_eq, eq_self, implies_true, dc16_r0, dc16_r1, dc16_r2, dc16_r3, dc16_r4, dc16_r6, dc16_r7, dc16_r5, dc16_r8, dc16, DL.dI, DL.dB, DL.dS, DL.dI, DL.dS, DL.dB, h0, h1, ht]
            refine onB_i (fun e4 => ?_) (fun e4 => ?_)
            · simp -dsimp -implicitDefEqProofs (maxSteps := 1000000) (disch := first | omega | (simp only [List.length_append, List.length_cons, List.length_nil]; omega) | (intros; simp only [ne_eq, reduceCtorEq, not_false_eq_true] <;> fail)) only [DL.R, Nat.reduceEqDiff, ↓reduceIte, reduceCtorEq, Int.reduceToNat, Int.reduceLE, Int.reduceLT, Nat.reduceLeDiff, Nat.reduceAdd, Nat.reduceMul, Int.reduceBNe, Int.reduceBEq, Int.cast_ofNat_Int, decide_true, decide_false, ne_eq, eq_self, implies_true, dc16_r0, dc16_r1, dc16_r2, dc16_r3, dc16_r4, dc16_r6, dc16_r7, dc16_r5, dc16_r8, dc16, DL.dI, DL.dB, DL.dS, DL.dI, DL.dS, DL.dB, h0, h1, ht]
              exact out _ rfl (by simp [sameRule] at e4 ⊢; simp [e4])
            · have hs : sameRule ⟨rw1, rm, rn, rwho⟩ ⟨qw, qm, qn, qwho⟩ = true := by
                simp at e1 e2 e3 e4; simp [sameRule, e1, e2, e3, e4]
              simp -dsimp -implicitDefEqProofs (maxSteps := 1000000) (disch := first | omega | (simp only [List.length_append, List.length_cons, List.length_nil]; omega) | (intros; simp only [ne_eq, reduceCtorEq, not_false_eq_true] <;> fail)) only [DL.R, Nat.reduceEqDiff, ↓reduceIte, reduceCtorEq, Int.reduceToNat, Int.reduceLE, Int.reduceLT, Nat.reduceLeDiff, Nat.reduceAdd, Nat.reduceMul, Int.reduceBNe, Int.reduceBEq, Int.cast_ofNat_Int, decide_true, decide_false, ne_eq, eq_self, implies_true, dc16_r0, dc16_r1, dc16_r2, dc16_r3, dc16_r4, dc16_r6, dc16_r7, dc16_r5, dc16_r8, dc16, DL.dI, DL.dB, DL.dS, DL.dI, DL.dS, DL.dB, h0, h1, ht, DL.wrap_id]
              exact ⟨c1, fun j hj => hPk j hj hs⟩
          · simp -dsimp -implicitDefEqProofs (maxSteps := 1000000) (disch := first | omega | (simp only [List.length_append, List.length_cons, List.length_nil]; omega) | (intros; simp only [ne_eq, reduceCtorEq, not_false_eq_true] <;> fail)) only [DL.R, Nat.reduceEqDiff, ↓reduceIte, reduceCtorEq, Int.reduceToNat, Int.reduceLE, Int.reduceLT, Nat.reduceLeDiff, Nat.reduceAdd, Nat.reduceMul, Int.reduceBNe, Int.reduceBEq, Int.cast_ofNat_Int, decide_true, decide_false, ne_eq, eq_self, implies_true, dc16_r0, dc16_r1, dc16_r2, dc16_r3, dc16_r4, dc16_r6, dc16_r7, dc16_r5, dc16_r8, dc16, DL.dI, DL.dB, DL.dS, DL.dI, DL.dS, DL.dB, h0, h1, ht]
            exact out _ rfl (by simp [sameRule] at e3 ⊢; simp [e3])
        · simp -dsimp -implicitDefEqProofs (maxSteps := 1000000) (disch := first | omega | (simp only [List.length_append, List.length_cons, List.length_nil]; omega) | (intros; simp only [ne_eq, reduceCtorEq, not_false_eq_true] <;> fail)) only [DL.R, Nat.reduceEqDiff, ↓reduceIte, reduceCtorEq, Int.reduceToNat, Int.reduceLE, Int.reduceLT, Nat.reduceLeDiff, Nat.reduceAdd, Nat.reduceMul, Int.reduceBNe, Int.reduceBEq, Int.cast_ofNat_Int, decide_true, decide_false, ne_eq, eq_self, implies_true, dc16_r0, dc16_r1, dc16_r2, dc16_r3, dc16_r4, dc16_r6, dc16_r7, dc16_r5, dc16_r8, dc16, DL.dI, DL.dB, DL.dS, DL.dI, DL.dS, DL.dB, h0, h1, ht]
          exact out _ rfl (by simp [sameRule] at e2 ⊢; simp [e2])
      · simp -dsimp -implicitDefEqProofs (maxSteps := 1000000) (disch := first | omega | (simp only [List.length_append, List.length_cons, List.length_nil]; omega) | (intros; simp only [ne_eq, reduceCtorEq, not_false_eq_true] <;> fail)) only [DL.R, Nat.reduceEqDiff, ↓reduceIte, reduceCtorEq, Int.reduceToNat, Int.reduceLE, Int.reduceLT, Nat.reduceLeDiff, Nat.reduceAdd, Nat.reduceMul, Int.reduceBNe, Int.reduceBEq, Int.cast_ofNat_Int, decide_true, decide_false, ne_eq, eq_self, implies_true, dc16_r0, dc16_r1, dc16_r2, dc16_r3, dc16_r4, dc16_r6, dc16_r7, dc16_r5, dc16_r8, dc16, DL.dI, DL.dB, DL.dS, DL.dI, DL.dS, DL.dB, h0, h1, ht]
        exact out _ rfl (by simp [sameRule] at e1 ⊢; simp [e1])
    · have c1 : ¬ k < a.length := by simpa using c
      simp -dsimp -implicitDefEqProofs (maxSteps := 1000000) (disch := first | omega | (simp only [List.length_append, List.length_cons, List.length_nil]; omega) | (intros; simp only [ne_eq, reduceCtorEq, not_false_eq_true] <;> fail)) only [DL.R, Nat.reduceEqDiff, ↓reduceIte, reduceCtorEq, Int.reduceToNat, Int.reduceLE, Int.reduceLT, Nat.reduceLeDiff, Nat.reduceAdd, Nat.reduceMul, Int.reduceBNe, Int.reduceBEq, Int.cast_ofNat_Int, decide_true, decide_false, ne_eq, eq_self, implies_true, dc16_r0, dc16_r1, dc16_r2, dc16_r3, dc16_r4, dc16_r6, dc16_r7, dc16_r5, dc16_r8, dc16, DL.dI, DL.dB, DL.dS, DL.dI, h0, h1, ht, rules_len]
      have : sameRules a b = true := by
        simp only [sameRules, Bool.and_eq_true, List.all_eq_true, beq_iff_eq]
        refine ⟨c', fun p hp => ?_⟩
        obtain ⟨j, hj, rfl⟩ := List.mem_iff_getElem.1 hp
        simp only [List.length_zip] at hj
        simpa using hP j (by omega) (by omega) (by omega)
      rw [this] at hQ; exact hQ
end Go.Proofs.Tryd
set_option maxRecDepth 100000
set_option linter.unusedSimpArgs false
set_option linter.unusedVariables false
namespace Go.Proofs.Tryd
open Go Go.DL
variable {G : Nat → D} {H : List O} {Q : D → List O → Prop}
theorem ints_snoc (l : List Int) (x : Int) : ints (l ++ [x]) = ints l ++ [dI x] := by simp [ints]
def digitS (n : Int) : List UInt8 := [UInt8.ofNat (48 + n.toNat)]
end Go.Proofs.Tryd
set_option maxRecDepth 100000
set_option linter.unusedSimpArgs false
set_option linter.unusedVariables false
namespace Go.Proofs.Tryd
open Go Go.DL
variable {G : Nat → D} {H : List O} {Q : D → List O → Prop}
theorem around_range (n m : Int) (hm : 0 < m) : 0 ≤ around n m ∧ around n m < m := ⟨Int.emod_nonneg _ (by omega), Int.emod_lt_of_pos _ hm⟩
theorem at_range (l : List Int) (i m : Int) (hm : 0 < m) : 0 ≤ at_ l i m ∧ at_ l i m < m := by
  unfold at_
  split
  · exact ⟨by omega, hm⟩
  · exact around_range _ _ hm
def whoN (b w : Nat) : List Int := ((List.range w).filter fun i : Nat => b / 2 ^ i % 2 == 1).map fun i : Nat => (i : Int)
theorem whoN_succ (b w : Nat) : whoN b (w + 1) = if b / 2 ^ w % 2 = 1 then whoN b w ++ [(w : Int)] else whoN b w := by
  unfold whoN
  rw [List.range_succ, List.filter_append, List.map_append]
  by_cases h : b / 2 ^ w % 2 = 1 <;> simp [h]
theorem whoN_len (b w : Nat) : (whoN b w).length ≤ w := by
  unfold whoN
  rw [List.length_map]
  have := List.length_filter_le (fun i => b / 2 ^ i % 2 == 1) (List.range w)
  simpa using this
theorem whoN_pos : ∀ b : Nat, b < 256 → 1 ≤ b → 1 ≤ (whoN b 8).length := by decide
def ruleWho (l : List Int) (i : Nat) : List Int := whoN (1 + (at_ l (17 + i) 255).toNat) 8
def ruleF (l : List Int) (names : List (List UInt8)) (i : Nat) : Rule :=
  ⟨str (whatsL.getD (at_ l (1 + i) 7).toNat []), str (if at_ l (9 + i) (2 * names.length + 1) < names.length then names.getD (at_ l (9 + i) (2 * names.length + 1)).toNat [] else []), 1 + at_ l (25 + i) (ruleWho l i).length, ruleWho l i⟩
def rulesF (l : List Int) (names : List (List UInt8)) (most : Int) : List Rule := (List.range (at_ l 0 (most + 1)).toNat).map (ruleF l names)
theorem ruleWho_pos (l : List Int) (i : Nat) : 1 ≤ (ruleWho l i).length := by
  have := at_range l (17 + i) 255 (by omega)
  exact whoN_pos _ (by omega) (by omega)
theorem tmod_two (m : Nat) : ((m : Int).tmod 2 == 1) = (m % 2 == 1) := by
  rw [Int.tmod_eq_emod_of_nonneg (by omega), Bool.eq_iff_iff]; simp; omega
theorem tdiv_two (m : Nat) (h : m ≤ 1099511627776) : IntKind.i64.wrap ((m : Int).tdiv 2) = ((m / 2 : Nat) : Int) := by
  rw [Int.tdiv_eq_ediv_of_nonneg (by omega), wrap_id (by omega) (by omega)]; simp
theorem rulesD_snoc (a : List Rule) (r : Rule) : rulesD (a ++ [r]) = rulesD a ++ [ruleD r] := by simp [rulesD]
theorem below_rules (n : Nat) (l : List Rule) : Below n (.sl (rulesD l)) := by
  simp [below_sl, below_lit, rulesD, ruleD, ruleL, D.leaves, ints]
theorem rules_spec (l : List Int) (hl : ∀ n ∈ l, I64 n) (hll : l.length ≤ 1099511627776) (names : List (List UInt8)) (hn : names.length ≤ 1099511627776) (most : Int) (hm0 : 0 ≤ most) (hm1 : most ≤ 1048576) (hQ : Q (.sl (rulesD (rulesF l names most))) H) :
    CallA Tryd.prog G 9 [.sl (ints l), .sl (strs names), dI most] H Q := by
  refine CallA.deep (s9 (Nat.le_of_ble_eq_true rfl) ?_)
  simp -dsimp -implicitDefEqProofs (maxSteps := 1000000) (disch := first | omega | (simp only [List.length_append, List.length_cons, List.length_nil]; omega) | (intros; simp only [ne_eq, reduceCtorEq, not_false_eq_true] <;> fail)) only [DL.R, Nat.reduceEqDiff, ↓reduceIte, reduceCtorEq, Int.reduceToNat, Int.reduceLE, Int.reduceLT, Nat.reduceLeDiff, Nat.reduceAdd, Nat.reduceMul, Int.reduceBNe, Int.reduceBEq, Int.cast_ofNat_Int, decide_true, decide_false, ne_eq, eq_self, implies_true, dc9_r0, dc9_r1, dc9_r2, dc9_r3, dc9_r4, dc9_r6, dc9_r7, dc9_r8, dc9_r9, dc9_r10, dc9_r11, dc9_r12, dc9_r14, dc9_r15, dc9_r16, dc9_r13, dc9_r17, dc9_r18, dc9_r5, dc9_r19, dc9, DL.dI, DL.dB, DL.dS, DL.wrap_id]
  refine ⟨by omega, ?_⟩
  refine at_spec l 0 (most + 1) hl (by omega) (by omega) ?_
  obtain ⟨N, hN⟩ : ∃ N : Nat, at_ l 0 (most + 1) = (N : Int) := ⟨(at_ l 0 (most + 1)).toNat, by have := at_range l 0 (most + 1) (by omega); omega⟩
  have hNm : (N : Int) ≤ most := by have := at_range l 0 (most + 1) (by omega); omega
  have hres : rulesF l names most = (List.range N).map (ruleF l names) := by unfold rulesF; rw [hN]; simp
  rw [hN]
  simp -dsimp -implicitDefEqProofs (maxSteps := 1000000) (disch := first | omega | (simp only [List.length_append, List.length_cons, List.length_nil]; omega) | (intros; simp only [ne_eq, reduceCtorEq, not_false_eq_true] <;> fail)) only [DL.R, Nat.reduceEqDiff, ↓reduceIte, reduceCtorEq, Int.reduceToNat, Int.reduceLE, Int.reduceLT, Nat.reduceLeDiff, Nat.reduceAdd, Nat.reduceMul, Int.reduceBNe, Int.reduceBEq, Int.cast_ofNat_Int, decide_true, decide_false, ne_eq, eq_self, implies_true, dc9_r0, dc9_r1, dc9_r2, dc9_r3, dc9_r4, dc9_r6, dc9_r7, dc9_r8, dc9_r9, dc9_r10, dc9_r11, dc9_r12, dc9_r14, dc9_r15, dc9_r16, dc9_r13, dc9_r17, dc9_r18, dc9_r5, dc9_r19, dc9, DL.dI, DL.dB, DL.dS]
  refine for_i 9 N (fun k s' H' => s' 0 = .sl (ints l) ∧ s' 1 = .sl (strs names) ∧ s' 8 = dI N ∧ ∃ ver Gs, s' 7 = .row H.length ver ∧ H' = H ++ (.row true ver 42 4 (rulesD ((List.range k).map (ruleF l names))) :: Gs)) ?_ ?_ ?_
  · simp -dsimp -implicitDefEqProofs (maxSteps := 1000000) (disch := first | omega | (simp only [List.length_append, List.length_cons, List.length_nil]; omega) | (intros; simp only [ne_eq, reduceCtorEq, not_false_eq_true] <;> fail)) only [DL.R, Nat.reduceEqDiff, ↓reduceIte, reduceCtorEq, Int.reduceToNat, Int.reduceLE, Int.reduceLT, Nat.reduceLeDiff, Nat.reduceAdd, Nat.reduceMul, Int.reduceBNe, Int.reduceBEq, Int.cast_ofNat_Int, decide_true, decide_false, ne_eq, eq_self, implies_true, DL.dI, DL.dB, DL.dS]
  · simp -dsimp -implicitDefEqProofs (maxSteps := 1000000) (disch := first | omega | (simp only [List.length_append, List.length_cons, List.length_nil]; omega) | (intros; simp only [ne_eq, reduceCtorEq, not_false_eq_true] <;> fail)) only [DL.R, Nat.reduceEqDiff, ↓reduceIte, reduceCtorEq, Int.reduceToNat, Int.reduceLE, Int.reduceLT, Nat.reduceLeDiff, Nat.reduceAdd, Nat.reduceMul, Int.reduceBNe, Int.reduceBEq, Int.cast_ofNat_Int, decide_true, decide_false, ne_eq, eq_self, implies_true, DL.dI, DL.dB, DL.dS]
    exact ⟨0, [], rfl, rfl⟩
  · rintro k s' H' hk ht ⟨h0, h1, h8, ver, Gs, h7, rfl⟩
    by_cases c : k < N
    · have c1 : decide ((k : Int) < (N : Int)) = true := by simp; omega
      simp -dsimp -implicitDefEqProofs (maxSteps := 1000000) (disch := first | omega | (simp only [List.length_append, List.length_cons, List.length_nil]; omega) | (intros; simp only [ne_eq, reduceCtorEq, not_false_eq_true] <;> fail)) only [DL.R, Nat.reduceEqDiff, ↓reduceIte, reduceCtorEq, Int.reduceToNat, Int.reduceLE, Int.reduceLT, Nat.reduceLeDiff, Nat.reduceAdd, Nat.reduceMul, Int.reduceBNe, Int.reduceBEq, Int.cast_ofNat_Int, decide_true, decide_false, ne_eq, eq_self, implies_true, dc9_r0, dc9_r1, dc9_r2, dc9_r3, dc9_r4, dc9_r6, dc9_r7, dc9_r8, dc9_r9, dc9_r10, dc9_r11, dc9_r12, dc9_r14, dc9_r15, dc9_r16, dc9_r13, dc9_r17, dc9_r18, dc9_r5, dc9_r19, dc9, DL.dI, DL.dB, DL.dS, h0, h1, h7, h8, ht, c1]
      refine whats_spec ?_
      simp -dsimp -implicitDefEqProofs (maxSteps := 1000000) (disch := first | omega | (simp only [List.length_append, List.length_cons, List.length_nil]; omega) | (intros; simp only [ne_eq, reduceCtorEq, not_false_eq_true] <;> fail)) only [DL.R, Nat.reduceEqDiff, ↓reduceIte, reduceCtorEq, Int.reduceToNat, Int.reduceLE, Int.reduceLT, Nat.reduceLeDiff, Nat.reduceAdd, Nat.reduceMul, Int.reduceBNe, Int.reduceBEq, Int.cast_ofNat_Int, decide_true, decide_false, ne_eq, eq_self, implies_true, dc9_r0, dc9_r1, dc9_r2, dc9_r3, dc9_r4, dc9_r6, dc9_r7, dc9_r8, dc9_r9, dc9_r10, dc9_r11, dc9_r12, dc9_r14, dc9_r15, dc9_r16, dc9_r13, dc9_r17, dc9_r18, dc9_r5, dc9_r19, dc9, DL.dI, DL.dB, DL.dS, h0, h1, h7, h8, ht, DL.wrap_id]
      refine at_spec l _ 7 hl (by omega) (by omega) ?_
      have r1 := at_range l (1 + k) 7 (by omega)
      have hw7 : whatsL.length = 7 := rfl
      unfold strs
      simp -dsimp -implicitDefEqProofs (maxSteps := 1000000) (disch := first | omega | (simp only [List.length_append, List.length_cons, List.length_nil]; omega) | (intros; simp only [ne_eq, reduceCtorEq, not_false_eq_true] <;> fail)) only [DL.R, Nat.reduceEqDiff, ↓reduceIte, reduceCtorEq, Int.reduceToNat, Int.reduceLE, Int.reduceLT, Nat.reduceLeDiff, Nat.reduceAdd, Nat.reduceMul, Int.reduceBNe, Int.reduceBEq, Int.cast_ofNat_Int, decide_true, decide_false, ne_eq, eq_self, implies_true, dc9_r0, dc9_r1, dc9_r2, dc9_r3, dc9_r4, dc9_r6, dc9_r7, dc9_r8, dc9_r9, dc9_r10, dc9_r11, dc9_r12, dc9_r14, dc9_r15, dc9_r16, dc9_r13, dc9_r17, dc9_r18, dc9_r5, dc9_r19, dc9, DL.dI, DL.dB, DL.dS, h0, h1, h7, h8, ht, strs_len, DL.wrap_id]
      have hgd : whatsL.getD (at_ l (1 + k) 7).toNat [] = whatsL[(at_ l (1 + k) 7).toNat]'(by omega) := by
        rw [List.getD_eq_getElem?_getD, List.getElem?_eq_getElem (by omega)]; rfl
      rw [← hgd]
      have hwh : str (whatsL.getD (at_ l (1 + k) 7).toNat []) = (ruleF l names k).what := rfl
      rw [hwh]
      have r9 := at_range l (9 + k) (2 * names.length + 1) (by omega)
      have hln : (names.map fun x => D.lit (.string (str x))).length = names.length := by simp
      refine ⟨by omega, ?_⟩
      refine at_spec l _ _ hl (by omega) (by omega) ?_
      obtain ⟨K, hK⟩ : ∃ K, at_ l (9 + k) (2 * names.length + 1) = K := ⟨_, rfl⟩
      rw [hK] at r9
      have hmod : ∀ m, (m = if K < names.length then names.getD K.toNat [] else []) → str m = (ruleF l names k).mod := fun m hm => by rw [hm, ← hK]; rfl
      have r17 := at_range l (17 + k) 255 (by omega)
      obtain ⟨b, hb⟩ : ∃ b : Nat, 1 + at_ l (17 + k) 255 = (b : Int) := ⟨1 + (at_ l (17 + k) 255).toNat, by omega⟩
      have hwho : ruleWho l k = whoN b 8 := by unfold ruleWho; congr 1; omega
      have hpos := ruleWho_pos l k
      have hil8 : (ints (whoN b 8)).length = (whoN b 8).length := by simp [ints]
      have hl8 := whoN_len b 8
      have r25 := at_range l (25 + k) (ruleWho l k).length (by omega)
      have ht0 : (List.take K.toNat (strs names)).length = K.toNat → True := fun _ => trivial
      by_cases cK : K < names.length
      · have e1 : decide (K < (names.length : Int)) = true := by simp; omega
        have hgn : str (names[K.toNat]'(by omega)) = (ruleF l names k).mod := by
          refine hmod _ ?_
          rw [if_pos cK, List.getD_eq_getElem?_getD, List.getElem?_eq_getElem (by omega)]; rfl
        unfold strs at h1
        simp -dsimp -implicitDefEqProofs (maxSteps := 1000000) (disch := first | omega | (simp only [List.length_append, List.length_cons, List.length_nil]; omega) | (intros; simp only [ne_eq, reduceCtorEq, not_false_eq_true] <;> fail)) only [DL.R, Nat.reduceEqDiff, ↓reduceIte, reduceCtorEq, Int.reduceToNat, Int.reduceLE, Int.reduceLT, Nat.reduceLeDiff, Nat.reduceAdd, Nat.reduceMul, Int.reduceBNe, Int.reduceBEq, Int.cast_ofNat_Int, decide_true, decide_false, ne_eq, eq_self, implies_true, dc9_r0, dc9_r1, dc9_r2, dc9_r3, dc9_r4, dc9_r6, dc9_r7, dc9_r8, dc9_r9, dc9_r10, dc9_r11, dc9_r12, dc9_r14, dc9_r15, dc9_r16, dc9_r13, dc9_r17, dc9_r18, dc9_r5, dc9_r19, dc9, DL.dI, DL.dB, DL.dS, h0, h1, h7, h8, ht, strs_len, hK, e1, hgn, DL.wrap_id]
        change s' 1 = .sl (strs names) at h1
        refine at_spec l _ _ hl (by omega) (by omega) ?_
        simp -dsimp -implicitDefEqProofs (maxSteps := 1000000) (disch := first | omega | (simp only [List.length_append, List.length_cons, List.length_nil]; omega) | (intros; simp only [ne_eq, reduceCtorEq, not_false_eq_true] <;> fail)) only [DL.R, Nat.reduceEqDiff, ↓reduceIte, reduceCtorEq, Int.reduceToNat, Int.reduceLE, Int.reduceLT, Nat.reduceLeDiff, Nat.reduceAdd, Nat.reduceMul, Int.reduceBNe, Int.reduceBEq, Int.cast_ofNat_Int, decide_true, decide_false, ne_eq, eq_self, implies_true, dc9_r0, dc9_r1, dc9_r2, dc9_r3, dc9_r4, dc9_r6, dc9_r7, dc9_r8, dc9_r9, dc9_r10, dc9_r11, dc9_r12, dc9_r14, dc9_r15, dc9_r16, dc9_r13, dc9_r17, dc9_r18, dc9_r5, dc9_r19, dc9, DL.dI, DL.dB, DL.dS, h0, h1, h7, h8, ht, hb, DL.wrap_id]
        refine for_i 13 8 (fun w s'' H'' => s'' 0 = .sl (ints l) ∧ s'' 1 = .sl (strs names) ∧ s'' 8 = dI N ∧ s'' 9 = dI k ∧ s'' 7 = .row H.length ver ∧ s'' 10 = .ptr (H.length + (Gs.length + 1)) 0 ∧ s'' 12 = dI ((b / 2 ^ w : Nat) : Int) ∧
            ∃ v, H'' = H ++ (.row true ver 42 4 (rulesD ((List.range k).map (ruleF l names))) :: (Gs ++ [.box 42 [dS (ruleF l names k).what, dS (ruleF l names k).mod, dI 0, .row (H.length + (Gs.length + 1 + 1)) v], .row true v 3 1 (ints (whoN b w))]))) ?_ ?_ ?_
        · simp -dsimp -implicitDefEqProofs (maxSteps := 1000000) (disch := first | omega | (simp only [List.length_append, List.length_cons, List.length_nil]; omega) | (intros; simp only [ne_eq, reduceCtorEq, not_false_eq_true] <;> fail)) only [DL.R, Nat.reduceEqDiff, ↓reduceIte, reduceCtorEq, Int.reduceToNat, Int.reduceLE, Int.reduceLT, Nat.reduceLeDiff, Nat.reduceAdd, Nat.reduceMul, Int.reduceBNe, Int.reduceBEq, Int.cast_ofNat_Int, decide_true, decide_false, ne_eq, eq_self, implies_true, DL.dI, DL.dB, DL.dS]
        · simp -dsimp -implicitDefEqProofs (maxSteps := 1000000) (disch := first | omega | (simp only [List.length_append, List.length_cons, List.length_nil]; omega) | (intros; simp only [ne_eq, reduceCtorEq, not_false_eq_true] <;> fail)) only [DL.R, Nat.reduceEqDiff, ↓reduceIte, reduceCtorEq, Int.reduceToNat, Int.reduceLE, Int.reduceLT, Nat.reduceLeDiff, Nat.reduceAdd, Nat.reduceMul, Int.reduceBNe, Int.reduceBEq, Int.cast_ofNat_Int, decide_true, decide_false, ne_eq, eq_self, implies_true, DL.dI, DL.dB, DL.dS, h0, h1, h7, h8, ht]
          exact ⟨by simp, 0, rfl⟩
        · rintro w s'' H'' hw gt ⟨g0, g1, g8, g9, g7, g10, g12, v, rfl⟩
          have hbw : b / 2 ^ w ≤ b := Nat.div_le_self _ _
          have hbs : b / 2 ^ (w + 1) = b / 2 ^ w / 2 := by rw [Nat.pow_succ, Nat.div_div_eq_div_mul]
          have hwl := whoN_len b w
          have hil : (ints (whoN b w)).length = (whoN b w).length := by simp [ints]
          by_cases cw : w < 8
          · have f1 : decide ((w : Int) < 8) = true := by simp; omega
            have f3 := tdiv_two (b / 2 ^ w) (by omega)
            by_cases cb : b / 2 ^ w % 2 = 1
            · have f2 : (((b / 2 ^ w : Nat) : Int).tmod 2 == 1) = true := by rw [tmod_two]; simp [cb]
              simp -dsimp -implicitDefEqProofs (maxSteps := 1000000) (disch := first | omega | (simp only [List.length_append, List.length_cons, List.length_nil]; omega) | (intros; simp only [ne_eq, reduceCtorEq, not_false_eq_true] <;> fail)) only [DL.R, Nat.reduceEqDiff, ↓reduceIte, reduceCtorEq, Int.reduceToNat, Int.reduceLE, Int.reduceLT, Nat.reduceLeDiff, Nat.reduceAdd, Nat.reduceMul, Int.reduceBNe, Int.reduceBEq, Int.cast_ofNat_Int, decide_true, decide_false, ne_eq, eq_self, implies_true, dc9_r0, dc9_r1, dc9_r2, dc9_r3, dc9_r4, dc9_r6, dc9_r7, dc9_r8, dc9_r9, dc9_r10, dc9_r11, dc9_r12, dc9_r14, dc9_r15, dc9_r16, dc9_r13, dc9_r17, dc9_r18, dc9_r5, dc9_r19, dc9, DL.dI, DL.dB, DL.dS, g0, g1, g8, g9, g7, g10, g12, gt, f1, f2, f3, hil, DL.wrap_id]
              refine ⟨by omega, cw, by rw [hbs], v + 1, ?_⟩
              rw [whoN_succ, if_pos cb, ints_snoc]
            · have f2 : (((b / 2 ^ w : Nat) : Int).tmod 2 == 1) = false := by rw [tmod_two]; simp [cb]
              simp -dsimp -implicitDefEqProofs (maxSteps := 1000000) (disch := first | omega | (simp only [List.length_append, List.length_cons, List.length_nil]; omega) | (intros; simp only [ne_eq, reduceCtorEq, not_false_eq_true] <;> fail)) only [DL.R, Nat.reduceEqDiff, ↓reduceIte, reduceCtorEq, Int.reduceToNat, Int.reduceLE, Int.reduceLT, Nat.reduceLeDiff, Nat.reduceAdd, Nat.reduceMul, Int.reduceBNe, Int.reduceBEq, Int.cast_ofNat_Int, decide_true, decide_false, ne_eq, eq_self, implies_true, dc9_r0, dc9_r1, dc9_r2, dc9_r3, dc9_r4, dc9_r6, dc9_r7, dc9_r8, dc9_r9, dc9_r10, dc9_r11, dc9_r12, dc9_r14, dc9_r15, dc9_r16, dc9_r13, dc9_r17, dc9_r18, dc9_r5, dc9_r19, dc9, DL.dI, DL.dB, DL.dS, g0, g1, g8, g9, g7, g10, g12, gt, f1, f2, f3, DL.wrap_id]
              refine ⟨cw, by rw [hbs], v, ?_⟩
              rw [whoN_succ, if_neg cb]
          · have f1 : decide ((w : Int) < 8) = false := by simp; omega
            have hw8 : w = 8 := by omega
            subst hw8
            simp -dsimp -implicitDefEqProofs (maxSteps := 1000000) (disch := first | omega | (simp only [List.length_append, List.length_cons, List.length_nil]; omega) | (intros; simp only [ne_eq, reduceCtorEq, not_false_eq_true] <;> fail)) only [DL.R, Nat.reduceEqDiff, ↓reduceIte, reduceCtorEq, Int.reduceToNat, Int.reduceLE, Int.reduceLT, Nat.reduceLeDiff, Nat.reduceAdd, Nat.reduceMul, Int.reduceBNe, Int.reduceBEq, Int.cast_ofNat_Int, decide_true, decide_false, ne_eq, eq_self, implies_true, dc9_r0, dc9_r1, dc9_r2, dc9_r3, dc9_r4, dc9_r6, dc9_r7, dc9_r8, dc9_r9, dc9_r10, dc9_r11, dc9_r12, dc9_r14, dc9_r15, dc9_r16, dc9_r13, dc9_r17, dc9_r18, dc9_r5, dc9_r19, dc9, DL.dI, DL.dB, DL.dS, g0, g1, g8, g9, g7, g10, g12, gt, f1, hil8, DL.wrap_id]
            rw [hwho] at hpos r25
            refine at_spec l _ _ hl (by omega) (by omega) ?_
            have hN25 : 1 + at_ l (25 + k) (whoN b 8).length = (ruleF l names k).n := by rw [← hwho]; rfl
            have hlen : (rulesD ((List.range k).map (ruleF l names))).length = k := by simp [rulesD]
            simp -dsimp -implicitDefEqProofs (maxSteps := 1000000) (disch := first | omega | (simp only [List.length_append, List.length_cons, List.length_nil]; omega) | (intros; simp only [ne_eq, reduceCtorEq, not_false_eq_true] <;> fail)) only [DL.R, Nat.reduceEqDiff, ↓reduceIte, reduceCtorEq, Int.reduceToNat, Int.reduceLE, Int.reduceLT, Nat.reduceLeDiff, Nat.reduceAdd, Nat.reduceMul, Int.reduceBNe, Int.reduceBEq, Int.cast_ofNat_Int, decide_true, decide_false, ne_eq, eq_self, implies_true, dc9_r0, dc9_r1, dc9_r2, dc9_r3, dc9_r4, dc9_r6, dc9_r7, dc9_r8, dc9_r9, dc9_r10, dc9_r11, dc9_r12, dc9_r14, dc9_r15, dc9_r16, dc9_r13, dc9_r17, dc9_r18, dc9_r5, dc9_r19, dc9, DL.dI, DL.dB, DL.dS, g0, g1, g8, g9, g7, g10, gt, hN25, hlen, DL.wrap_id]
            refine ⟨by omega, c, rfl, ver + 1, _, rfl, by rw [List.range_succ, List.map_append, List.map_cons, List.map_nil, rulesD_snoc]; unfold ruleD ruleL; rw [show (ruleF l names k).who = whoN b 8 from hwho]⟩
      · have e1 : decide (K < (names.length : Int)) = false := by simp; omega
        have hgn : str [] = (ruleF l names k).mod := by
          refine hmod _ ?_
          rw [if_neg cK]
        simp -dsimp -implicitDefEqProofs (maxSteps := 1000000) (disch := first | omega | (simp only [List.length_append, List.length_cons, List.length_nil]; omega) | (intros; simp only [ne_eq, reduceCtorEq, not_false_eq_true] <;> fail)) only [DL.R, Nat.reduceEqDiff, ↓reduceIte, reduceCtorEq, Int.reduceToNat, Int.reduceLE, Int.reduceLT, Nat.reduceLeDiff, Nat.reduceAdd, Nat.reduceMul, Int.reduceBNe, Int.reduceBEq, Int.cast_ofNat_Int, decide_true, decide_false, ne_eq, eq_self, implies_true, dc9_r0, dc9_r1, dc9_r2, dc9_r3, dc9_r4, dc9_r6, dc9_r7, dc9_r8, dc9_r9, dc9_r10, dc9_r11, dc9_r12, dc9_r14, dc9_r15, dc9_r16, dc9_r13, dc9_r17, dc9_r18, dc9_r5, dc9_r19, dc9, DL.dI, DL.dB, DL.dS, h0, h1, h7, h8, ht, strs_len, hK, e1, DL.wrap_id]
        rw [hgn]
        refine at_spec l _ _ hl (by omega) (by omega) ?_
        simp -dsimp -implicitDefEqProofs (maxSteps := 1000000) (disch := first | omega | (simp only [List.length_append, List.length_cons, List.length_nil]; omega) | (intros; simp only [ne_eq, reduceCtorEq, not_false_eq_true] <;> fail)) only [DL.R, Nat.reduceEqDiff, ↓reduceIte, reduceCtorEq, Int.reduceToNat, Int.reduceLE, Int.reduceLT, Nat.reduceLeDiff, Nat.reduceAdd, Nat.reduceMul, Int.reduceBNe, Int.reduceBEq, Int.cast_ofNat_Int, decide_true, decide_false, ne_eq, eq_self, implies_true, dc9_r0, dc9_r1, dc9_r2, dc9_r3, dc9_r4, dc9_r6, dc9_r7, dc9_r8, dc9_r9, dc9_r10, dc9_r11, dc9_r12, dc9_r14, dc9_r15, dc9_r16, dc9_r13, dc9_r17, dc9_r18, dc9_r5, dc9_r19, dc9, DL.dI, DL.dB, DL.dS, h0, h1, h7, h8, ht, hb, DL.wrap_id]
        refine for_i 13 8 (fun w s'' H'' => s'' 0 = .sl (ints l) ∧ s'' 1 = .sl (strs names) ∧ s'' 8 = dI N ∧ s'' 9 = dI k ∧ s'' 7 = .row H.length ver ∧ s'' 10 = .ptr (H.length + (Gs.length + 1)) 0 ∧ s'' 12 = dI ((b / 2 ^ w : Nat) : Int) ∧
            ∃ v, H'' = H ++ (.row true ver 42 4 (rulesD ((List.range k).map (ruleF l names))) :: (Gs ++ [.box 42 [dS (ruleF l names k).what, dS (ruleF l names k).mod, dI 0, .row (H.length + (Gs.length + 1 + 1)) v], .row true v 3 1 (ints (whoN b w))]))) ?_ ?_ ?_
        · simp -dsimp -implicitDefEqProofs (maxSteps := 1000000) (disch := first | omega | (simp only [List.length_append, List.length_cons, List.length_nil]; omega) | (intros; simp only [ne_eq, reduceCtorEq, not_false_eq_true] <;> fail)) only [DL.R, Nat.reduceEqDiff, ↓reduceIte, reduceCtorEq, Int.reduceToNat, Int.reduceLE, Int.reduceLT, Nat.reduceLeDiff, Nat.reduceAdd, Nat.reduceMul, Int.reduceBNe, Int.reduceBEq, Int.cast_ofNat_Int, decide_true, decide_false, ne_eq, eq_self, implies_true, DL.dI, DL.dB, DL.dS]
        · simp -dsimp -implicitDefEqProofs (maxSteps := 1000000) (disch := first | omega | (simp only [List.length_append, List.length_cons, List.length_nil]; omega) | (intros; simp only [ne_eq, reduceCtorEq, not_false_eq_true] <;> fail)) only [DL.R, Nat.reduceEqDiff, ↓reduceIte, reduceCtorEq, Int.reduceToNat, Int.reduceLE, Int.reduceLT, Nat.reduceLeDiff, Nat.reduceAdd, Nat.reduceMul, Int.reduceBNe, Int.reduceBEq, Int.cast_ofNat_Int, decide_true, decide_false, ne_eq, eq_self, implies_true, DL.dI, DL.dB, DL.dS, h0, h1, h7, h8, ht]
          exact ⟨by simp, 0, rfl⟩
        · rintro w s'' H'' hw gt ⟨g0, g1, g8, g9, g7, g10, g12, v, rfl⟩
          have hbw : b / 2 ^ w ≤ b := Nat.div_le_self _ _
          have hbs : b / 2 ^ (w + 1) = b / 2 ^ w / 2 := by rw [Nat.pow_succ, Nat.div_div_eq_div_mul]
          have hwl := whoN_len b w
          have hil : (ints (whoN b w)).length = (whoN b w).length := by simp [ints]
          by_cases cw : w < 8
          · have f1 : decide ((w : Int) < 8) = true := by simp; omega
            have f3 := tdiv_two (b / 2 ^ w) (by omega)
            by_cases cb : b / 2 ^ w % 2 = 1
            · have f2 : (((b / 2 ^ w : Nat) : Int).tmod 2 == 1) = true := by rw [tmod_two]; simp [cb]
              simp -dsimp -implicitDefEqProofs (maxSteps := 1000000) (disch := first | omega | (simp only [List.length_append, List.length_cons, List.length_nil]; omega) | (intros; simp only [ne_eq, reduceCtorEq, not_false_eq_true] <;> fail)) only [DL.R, Nat.reduceEqDiff, ↓reduceIte, reduceCtorEq, Int.reduceToNat, Int.reduceLE, Int.reduceLT, Nat.reduceLeDiff, Nat.reduceAdd, Nat.reduceMul, Int.reduceBNe, Int.reduceBEq, Int.cast_ofNat_Int, decide_true, decide_false, ne_eq, eq_self, implies_true, dc9_r0, dc9_r1, dc9_r2, dc9_r3, dc9_r4, dc9_r6, dc9_r7, dc9_r8, dc9_r9, dc9_r10, dc9_r11, dc9_r12, dc9_r14, dc9_r15, dc9_r16, dc9_r13, dc9_r17, dc9_r18, dc9_r5, dc9_r19, dc9, DL.dI, DL.dB, DL.dS, g0, g1, g8, g9, g7, g10, g12, gt, f1, f2, f3, hil, DL.wrap_id]
              refine ⟨by omega, cw, by rw [hbs], v + 1, ?_⟩
              rw [whoN_succ, if_pos cb, ints_snoc]
            · have f2 : (((b / 2 ^ w : Nat) : Int).tmod 2 == 1) = false := by rw [tmod_two]; simp [cb]
              simp -dsimp -implicitDefEqProofs (maxSteps := 1000000) (disch := first | omega | (simp only [List.length_append, List.length_cons, List.length_nil]; omega) | (intros; simp only [ne_eq, reduceCtorEq, not_false_eq_true] <;> fail)) only [DL.R, Nat.reduceEqDiff, ↓reduceIte, reduceCtorEq, Int.reduceToNat, Int.reduceLE, Int.reduceLT, Nat.reduceLeDiff, Nat.reduceAdd, Nat.reduceMul, Int.reduceBNe, Int.reduceBEq, Int.cast_ofNat_Int, decide_true, decide_false, ne_eq, eq_self, implies_true, dc9_r0, dc9_r1, dc9_r2, dc9_r3, dc9_r4, dc9_r6, dc9_r7, dc9_r8, dc9_r9, dc9_r10, dc9_r11, dc9_r12, dc9_r14, dc9_r15, dc9_r16, dc9_r13, dc9_r17, dc9_r18, dc9_r5, dc9_r19, dc9, DL.dI, DL.dB, DL.dS, g0, g1, g8, g9, g7, g10, g12, gt, f1, f2, f3, DL.wrap_id]
              refine ⟨cw, by rw [hbs], v, ?_⟩
              rw [whoN_succ, if_neg cb]
          · have f1 : decide ((w : Int) < 8) = false := by simp; omega
            have hw8 : w = 8 := by omega
            subst hw8
            simp -dsimp -implicitDefEqProofs (maxSteps := 1000000) (disch := first | omega | (simp only [List.length_append, List.length_cons, List.length_nil]; omega) | (intros; simp only [ne_eq, reduceCtorEq, not_false_eq_true] <;> fail)) only [DL.R, Nat.reduceEqDiff, ↓reduceIte, reduceCtorEq, Int.reduceToNat, Int.reduceLE, Int.reduceLT, Nat.reduceLeDiff, Nat.reduceAdd, Nat.reduceMul, Int.reduceBNe, Int.reduceBEq, Int.cast_ofNat_Int, decide_true, decide_false, ne_eq, eq_self, implies_true, dc9_r0, dc9_r1, dc9_r2, dc9_r3, dc9_r4, dc9_r6, dc9_r7, dc9_r8, dc9_r9, dc9_r10, dc9_r11, dc9_r12, dc9_r14, dc9_r15, dc9_r16, dc9_r13, dc9_r17, dc9_r18, dc9_r5, dc9_r19, dc9, DL.dI, DL.dB, DL.dS, g0, g1, g8, g9, g7, g10, g12, gt, f1, hil8, DL.wrap_id]
            rw [hwho] at hpos r25
            refine at_spec l _ _ hl (by omega) (by omega) ?_
            have hN25 : 1 + at_ l (25 + k) (whoN b 8).length = (ruleF l names k).n := by rw [← hwho]; rfl
            have hlen : (rulesD ((List.range k).map (ruleF l names))).length = k := by simp [rulesD]
            simp -dsimp -implicitDefEqProofs (maxSteps := 1000000) (disch := first | omega | (simp only [List.length_append, List.length_cons, List.length_nil]; omega) | (intros; simp only [ne_eq, reduceCtorEq, not_false_eq_true] <;> fail)) only [DL.R, Nat.reduceEqDiff, ↓reduceIte, reduceCtorEq, Int.reduceToNat, Int.reduceLE, Int.reduceLT, Nat.reduceLeDiff, Nat.reduceAdd, Nat.reduceMul, Int.reduceBNe, Int.reduceBEq, Int.cast_ofNat_Int, decide_true, decide_false, ne_eq, eq_self, implies_true, dc9_r0, dc9_r1, dc9_r2, dc9_r3, dc9_r4, dc9_r6, dc9_r7, dc9_r8, dc9_r9, dc9_r10, dc9_r11, dc9_r12, dc9_r14, dc9_r15, dc9_r16, dc9_r13, dc9_r17, dc9_r18, dc9_r5, dc9_r19, dc9, DL.dI, DL.dB, DL.dS, g0, g1, g8, g9, g7, g10, gt, hN25, hlen, DL.wrap_id]
            refine ⟨by omega, c, rfl, ver + 1, _, rfl, by rw [List.range_succ, List.map_append, List.map_cons, List.map_nil, rulesD_snoc]; unfold ruleD ruleL; rw [show (ruleF l names k).who = whoN b 8 from hwho]⟩
    · have c1 : decide ((k : Int) < (N : Int)) = false := by simp; omega
      have hkN : k = N := by omega
      subst hkN
      simp -dsimp -implicitDefEqProofs (maxSteps := 1000000) (disch := first | omega | (simp only [List.length_append, List.length_cons, List.length_nil]; omega) | (intros; simp only [ne_eq, reduceCtorEq, not_false_eq_true] <;> fail)) only [DL.R, Nat.reduceEqDiff, ↓reduceIte, reduceCtorEq, Int.reduceToNat, Int.reduceLE, Int.reduceLT, Nat.reduceLeDiff, Nat.reduceAdd, Nat.reduceMul, Int.reduceBNe, Int.reduceBEq, Int.cast_ofNat_Int, decide_true, decide_false, ne_eq, eq_self, implies_true, dc9_r0, dc9_r1, dc9_r2, dc9_r3, dc9_r4, dc9_r6, dc9_r7, dc9_r8, dc9_r9, dc9_r10, dc9_r11, dc9_r12, dc9_r14, dc9_r15, dc9_r16, dc9_r13, dc9_r17, dc9_r18, dc9_r5, dc9_r19, dc9, DL.dI, DL.dB, DL.dS, h0, h1, h7, h8, ht, c1]
      refine ⟨_, .sl (rulesD (rulesF l names most)), rfl, ?_, below_rules _ _, hQ⟩
      rw [hres]
      exact Deep.own0 rfl
end Go.Proofs.Tryd
set_option maxRecDepth 100000
set_option linter.unusedSimpArgs false
set_option linter.unusedVariables false
set_option linter.unusedVariables false
set_option linter.unusedSimpArgs false
namespace Go.DL
open Go
theorem Ext.truncL {c c' : Conc} {H H1 Gs : List O} (h : Ext c H c' (H1 ++ Gs)) (hl : H.length ≤ H1.length) : Ext c H c' H1 :=
  ⟨h.Φ, fun id o ho => by
    obtain ⟨o', k1, k2, k3, k4⟩ := h.obj id o ho
    have := (List.getElem?_eq_some_iff.1 ho).1
    rw [List.getElem?_append_left (by omega)] at k1
    exact ⟨o', k1, k2, k3, k4⟩⟩
theorem CallA.deepSet {P : Program} {G : Nat → D} {f : FuncId} {ds : List D} {H : List O} {Q : D → List O → Prop} (id : Nat)
    (h : CallA P G f ds H fun d H' => ∃ o' Gs d', o'.Below H.length ∧ H' = H.set id o' ++ Gs ∧ Deep (H.set id o' ++ DL.frzAll Gs) d d' ∧ Below H.length d' ∧ Q d' (H.set id o')) : CallA P G f ds H Q := by
  refine ⟨h.1, fun F c w vs h1 h2 h3 h4 => (h.2 F c w vs h1 h2 h3 h4).mono ?_⟩
  rintro e w' ⟨v, d, c', H', rfl, k1, k2, k3, o', Gs, d', hb, rfl, k4, k5, k6⟩
  obtain ⟨c'', j1, j2⟩ := k1.frzOwn Gs.length
  simp only [List.take_length, List.drop_length, List.append_nil] at j1 j2
  have hbel : ∀ o ∈ H.set id o', o.Below (H.set id o').length := by
    intro o ho
    rw [List.length_set]
    rcases List.mem_or_eq_of_mem_set ho with q | q
    · exact h1.below o q
    · subst q; exact hb
  exact ⟨v, d', c'', H.set id o', rfl, j1.trunc hbel, (k2.trans j2).truncL (by simp), (k4 F c'' w' v j1 (k3.ext j2)).trunc (by rw [List.length_set]; exact k5), k6⟩
section
variable (H Gs : List O) (o o' : O) (id k : Nat)
theorem set_lS (h : id < H.length) : (H.set id o ++ Gs).set id o' = H.set id o' ++ Gs := by rw [List.set_append_left _ _ (by simpa using h), List.set_set]
theorem get_lS (h : id < H.length) : (H.set id o ++ Gs)[id]? = some o := by rw [List.getElem?_append_left (by simpa using h), List.getElem?_set_self h]
theorem get_ownS : (H.set id o ++ Gs)[H.length + k]? = Gs[k]? := by rw [List.getElem?_append_right (by simp)]; congr 1; simp
theorem get_ownS0 : (H.set id o ++ Gs)[H.length]? = Gs[0]? := get_ownS H Gs o id 0
theorem set_ownS : (H.set id o ++ Gs).set (H.length + k) o' = H.set id o ++ Gs.set k o' := by rw [List.set_append_right _ _ (by simp)]; congr 2; simp
theorem set_ownS0 : (H.set id o ++ Gs).set H.length o' = H.set id o ++ Gs.set 0 o' := set_ownS H Gs o o' id 0
theorem set_self (h : H[id]? = some o) : H.set id o = H := by
  apply List.ext_getElem?
  intro i
  by_cases hi : id = i
  · subst hi; rw [List.getElem?_set_self (List.getElem?_eq_some_iff.1 h).1, h]
  · rw [List.getElem?_set_ne hi]
end
end Go.DL
set_option maxRecDepth 100000
set_option linter.unusedSimpArgs false
set_option linter.unusedVariables false
namespace Go.Proofs.Tryd
open Go Go.DL
variable {G : Nat → D} {H : List O} {Q : D → List O → Prop}
structure RS where
  l : List Tok
  bad : Bool
def RS.nx (s : RS) : List UInt8 := nextT s.l
def RS.no (s : RS) (right : Bool) : Bool := s.bad || !right || s.nx == []
def RS.take (s : RS) (right : Bool) : RS := if s.no right then ⟨s.l, true⟩ else ⟨s.l.drop 1, s.bad⟩
def RS.got (s : RS) (right : Bool) : List UInt8 := if s.no right then [] else s.nx
def RS.num (s : RS) (least most : Int) : RS := s.take (numOk s.nx least most)
def RS.ok (s : RS) : Prop := s.l.length ≤ 8192 ∧ ∀ t ∈ s.l, t.text.length ≤ 16
def rsO (e : TypeId) (s : RS) : O := .box e [.sl (toksD s.l), dB s.bad]
theorem RS.take_ok {s : RS} {b : Bool} (h : s.ok) : (s.take b).ok := by
  unfold RS.take
  split
  · exact h
  · exact ⟨by simp; have := h.1; omega, fun t ht => h.2 t (List.mem_of_mem_drop ht)⟩
theorem RS.nx_len {s : RS} (h : s.ok) : s.nx.length ≤ 16 := by
  unfold RS.nx nextT
  cases hl : s.l with
  | nil => simp
  | cons t l => exact h.2 t (by rw [hl]; simp)
def RS.left (s : RS) : Nat := s.l.length + (if s.bad then 0 else 1)
theorem RS.take_left {s : RS} {b : Bool} : (s.take b).left ≤ s.left ∧ (s.bad = false → (s.take b).left < s.left) := by
  unfold RS.take RS.left
  by_cases h : s.no b = true
  · rw [if_pos h]; cases hb : s.bad <;> simp
  · rw [if_neg h]
    have hn : s.nx ≠ [] := by intro q; simp [RS.no, q] at h
    have hl : 1 ≤ s.l.length := by
      cases hl : s.l with
      | nil => simp [RS.nx, nextT, hl] at hn
      | cons t l => simp
    have hb : s.bad = false := by cases hb : s.bad <;> simp_all [RS.no]
    simp [hb]; omega
theorem nextR {id : Nat} {e : TypeId} {s : RS} (hH : H[id]? = some (rsO e s)) (hQ : Q (dS (str s.nx)) H) : CallA Tryd.prog G 48 [.ptr id 0] H Q := next_spec id e s.l s.bad hH hQ
theorem takeR {id : Nat} {e : TypeId} {s : RS} (b : Bool) (hH : H[id]? = some (rsO e s)) (hQ : Q (dS (str (s.got b))) (H.set id (rsO e (s.take b)))) : CallA Tryd.prog G 47 [.ptr id 0, dB b] H Q := by
  refine take_spec id e s.l s.bad b hH (fun h => ?_) (fun h => ?_)
  · have h' : s.no b = true := h
    have e1 : s.got b = [] := by unfold RS.got; rw [if_pos h']
    have e2 : s.take b = ⟨s.l, true⟩ := by unfold RS.take; rw [if_pos h']
    rw [e1, e2] at hQ; exact hQ
  · have h' : ¬ s.no b = true := by rw [Bool.not_eq_true]; exact h
    have e1 : s.got b = s.nx := by unfold RS.got; rw [if_neg h']
    have e2 : s.take b = ⟨s.l.drop 1, s.bad⟩ := by unfold RS.take; rw [if_neg h']
    rw [e1, e2] at hQ; exact hQ
theorem numR (hE : Env G) {id : Nat} {e : TypeId} {s : RS} (hs : s.ok) (least most : Int) (hH : H[id]? = some (rsO e s)) (hQ : Q (dI (numT s.nx)) (H.set id (rsO e (s.num least most)))) : CallA Tryd.prog G 49 [.ptr id 0, dI least, dI most] H Q := by
  have hlen := RS.nx_len hs
  refine number_spec id e s.l s.bad least most hH (by unfold RS.nx at hlen; omega) hE.errS (fun h => ?_) (fun h => ?_)
  · have h' : s.no (numOk s.nx least most) = true := h
    have e2 : s.num least most = ⟨s.l, true⟩ := by unfold RS.num RS.take; rw [if_pos h']
    rw [e2] at hQ; exact hQ
  · have h' : ¬ s.no (numOk s.nx least most) = true := by rw [Bool.not_eq_true]; exact h
    have e2 : s.num least most = ⟨s.l.drop 1, s.bad⟩ := by unfold RS.num RS.take; rw [if_neg h']
    rw [e2] at hQ; exact hQ
def whoF : Nat → RS → Int → Int → List Int → List Int × RS
  | 0, s, _, _, who => (who, s)
  | f + 1, s, least, n, who =>
    if s.bad then (who, s)
    else if decide (n ≤ ((who ++ [numT s.nx]).length : Int)) && (s.num least 7).nx != [44] then (who ++ [numT s.nx], s.num least 7)
    else whoF f ((s.num least 7).take ((s.num least 7).nx == [44])) (numT s.nx + 1) n (who ++ [numT s.nx])
def rs1 (s : RS) : RS := s.take (isWhat kindsL s.nx)
def rs2 (s : RS) : RS := (rs1 s).take true
def rs3 (s : RS) : RS := if (rs1 s).nx = [105, 110] then (rs2 s).take (isWord kwL (rs2 s).nx) else rs1 s
def rsMod (s : RS) : List UInt8 := if (rs1 s).nx = [105, 110] then (rs2 s).got (isWord kwL (rs2 s).nx) else []
def rs4 (s : RS) : RS := (rs3 s).take ((rs3 s).nx == [58])
def rs5 (s : RS) : RS := (rs4 s).num 1 8
def rs6 (s : RS) : RS := (rs5 s).take ((rs5 s).nx == [111, 102])
def rsWho (s : RS) : List Int × RS := whoF ((rs6 s).left + 1) (rs6 s) 0 (numT (rs4 s).nx) []
def ruleOf (s : RS) : Rule := ⟨str (s.got (isWhat kindsL s.nx)), str (rsMod s), numT (rs4 s).nx, (rsWho s).1⟩
theorem numT_bound {t : List UInt8} (h : t.length ≤ 16) : -1000000000000000000 ≤ numT t ∧ numT t ≤ 1000000000000000000 := by
  unfold numT
  cases ha : Lib.atoi t with
  | none => simp
  | some n => obtain ⟨b1, b2⟩ := Lib.atoi_bound ha (by omega); simp; omega
theorem rs_below (n : Nat) (e : TypeId) (s : RS) : (rsO e s).Below n := by
  intro z hz
  simp only [List.mem_cons, List.not_mem_nil, or_false] at hz
  rcases hz with rfl | rfl
  · simp [below_sl, below_lit, toksD, tokD, D.leaves]
  · exact .lit _
end Go.Proofs.Tryd
