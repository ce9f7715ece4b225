/- Part of a proof of the statement Parses; what it needs in which order stands in GOCLAIM.json. -/
import Derived.WalkKit
import Derived.Laws.Externs
import Derived.Shelf.RegionOpenPlain
import Derived.Test.YtoehhfhjnjfgiaaDoorParsesH
set_option maxRecDepth 100000
set_option maxHeartbeats 4000000
set_option linter.unusedSimpArgs false
set_option linter.unusedVariables false
namespace Go.Proofs.Tryd
open Go Go.DL
variable {G : Nat → D} {H : List O} {Q : D → List O → Prop}
def RIh (H : List O) (p : PS) (s' : Nat → D) (H' : List O) : Prop :=
  (p.st = .what ∧ p.out = [] ∧ ∃ ver, s' 7 = .row H.length ver ∧ H' = H ++ [.row true ver 42 4 [], .box 42 [dS (str []), dS (str []), dI 0, .lit (.slice none 0 0)]]) ∨
  (p.st ≠ .what ∧ ∃ ver v b Gs, s' 7 = .row H.length ver ∧ H' = H ++ (.row true ver 42 4 (rulesD p.out) :: .box 42 [dS p.r.what, dS p.r.mod, dI p.r.n, .row (H.length + (Gs.length + 1 + 1)) v] :: (Gs ++ [.row b v 3 1 (ints p.r.who)])))
def RI (H : List O) (l : List UInt8) (ts : List Tok) (k : Nat) (s' : Nat → D) (H' : List O) : Prop :=
  s' 0 = dS (str l) ∧ s' 4 = .sl (toksD ts) ∧ s' 8 = .ptr (H.length + 1) 0 ∧ ∃ p : PS, refP l = refEnd l.length (refRun (ts.drop k) p (offs (ts.take k))) ∧ p.out.length ≤ k ∧ p.r.who.length ≤ k ∧ s' 6 = dI (offs (ts.take k)) ∧ s' 9 = dS (str (stB p.st)) ∧ RIh H p s' H'
theorem refParse_spec (l : List UInt8) (hl : l.length ≤ 1099511627776) (hQ : Q (parseD (refP l)) H) : CallA Tryd.prog G 15 [dS (str l)] H Q := by
  refine CallA.deep (s15 (Nat.le_of_ble_eq_true rfl) ?_)
  have hbel : ∀ x, Below H.length (parseD x) := fun x => by
    simp [parseD, below_tup, below_lit]; exact below_rules _ _
  have fin : ∀ (Gs : List O) (d : D), Deep (H ++ DL.frzAll Gs) d (parseD (refP l)) → ∃ Gs_1 d', H ++ Gs = H ++ Gs_1 ∧ Deep (H ++ DL.frzAll Gs_1) d d' ∧ Below H.length d' ∧ Q d' H := fun Gs d hd => ⟨Gs, _, rfl, hd, hbel _, hQ⟩
  simp -dsimp -implicitDefEqProofs (maxSteps := 1000000) (disch := first | omega | (simp only [List.length_append, List.length_cons, List.length_nil]; omega) | (intros; simp only [ne_eq, reduceCtorEq, not_false_eq_true] <;> fail)) only [DL.R, Nat.reduceEqDiff, ↓reduceIte, reduceCtorEq, Int.reduceToNat, Int.reduceLE, Int.reduceLT, Nat.reduceLeDiff, Nat.reduceAdd, Nat.reduceMul, Int.reduceBNe, Int.reduceBEq, Int.cast_ofNat_Int, decide_true, decide_false, ne_eq, eq_self, implies_true, dc15_r0, dc15_r1, dc15_r2, dc15_r3, dc15_r4, dc15_r5, dc15_r6, dc15_r7, dc15_r8, dc15_r9, dc15_r11, dc15_r12, dc15_r13, dc15_r14, dc15_r15, dc15_r16, dc15_r17, dc15_r18, dc15_r19, dc15_r20, dc15_r21, dc15_r22, dc15_r23, dc15_r24, dc15_r25, dc15_r26, dc15_r27, dc15_r28, dc15_r29, dc15_r30, dc15_r31, dc15_r32, dc15_r33, dc15_r34, dc15_r35, dc15_r36, dc15_r37, dc15_r38, dc15_r39, dc15_r40, dc15_r41, dc15_r42, dc15_r43, dc15_r44, dc15_r45, dc15_r46, dc15_r47, dc15_r48, dc15_r49, dc15_r50, dc15_r51, dc15_r52, dc15_r10, dc15_r53, dc15_r54, dc15_r55, dc15_r56, dc15_r57, dc15, DL.dI, DL.dB, DL.dS]
  refine rscan_spec l hl ?_
  obtain ⟨k1, k2, k3⟩ := scan_ok l
  obtain ⟨ts, rest, p0, hsc⟩ : ∃ ts rest p, scan l = (ts, rest, p) := ⟨_, _, _, rfl⟩
  have hP : refP l = if p0 ≠ -1 then ([], p0) else refEnd l.length (refRun ts ⟨[], ⟨str [], str [], 0, []⟩, .what⟩ 0) := by unfold refP; rw [hsc]
  rw [hsc] at k1 k2 k3 ⊢
  simp only at k1 k2 k3
  unfold scanD
  by_cases c0 : p0 = -1
  · have e0 : (p0 != -1) = false := by simp [c0]
    rw [if_neg (by simp [c0])] at hP
    simp -dsimp -implicitDefEqProofs (maxSteps := 1000000) (disch := first | omega | (simp only [List.length_append, List.length_cons, List.length_nil]; omega) | (intros; simp only [ne_eq, reduceCtorEq, not_false_eq_true] <;> fail)) only [DL.R, Nat.reduceEqDiff, ↓reduceIte, reduceCtorEq, Int.reduceToNat, Int.reduceLE, Int.reduceLT, Nat.reduceLeDiff, Nat.reduceAdd, Nat.reduceMul, Int.reduceBNe, Int.reduceBEq, Int.cast_ofNat_Int, decide_true, decide_false, ne_eq, eq_self, implies_true, dc15_r0, dc15_r1, dc15_r2, dc15_r3, dc15_r4, dc15_r5, dc15_r6, dc15_r7, dc15_r8, dc15_r9, dc15_r11, dc15_r12, dc15_r13, dc15_r14, dc15_r15, dc15_r16, dc15_r17, dc15_r18, dc15_r19, dc15_r20, dc15_r21, dc15_r22, dc15_r23, dc15_r24, dc15_r25, dc15_r26, dc15_r27, dc15_r28, dc15_r29, dc15_r30, dc15_r31, dc15_r32, dc15_r33, dc15_r34, dc15_r35, dc15_r36, dc15_r37, dc15_r38, dc15_r39, dc15_r40, dc15_r41, dc15_r42, dc15_r43, dc15_r44, dc15_r45, dc15_r46, dc15_r47, dc15_r48, dc15_r49, dc15_r50, dc15_r51, dc15_r52, dc15_r10, dc15_r53, dc15_r54, dc15_r55, dc15_r56, dc15_r57, dc15, DL.dI, DL.dB, DL.dS, e0]
    refine ⟨by omega, ?_⟩
    have htl2 : (toksD ts).length = ts.length := by simp [toksD]
    refine for_i 10 ts.length (fun k s' H' => RI H l ts k s' H') ?_ ?_ ?_
    · simp -dsimp -implicitDefEqProofs (maxSteps := 1000000) (disch := first | omega | (simp only [List.length_append, List.length_cons, List.length_nil]; omega) | (intros; simp only [ne_eq, reduceCtorEq, not_false_eq_true] <;> fail)) only [DL.R, Nat.reduceEqDiff, ↓reduceIte, reduceCtorEq, Int.reduceToNat, Int.reduceLE, Int.reduceLT, Nat.reduceLeDiff, Nat.reduceAdd, Nat.reduceMul, Int.reduceBNe, Int.reduceBEq, Int.cast_ofNat_Int, decide_true, decide_false, ne_eq, eq_self, implies_true, DL.dI, DL.dB, DL.dS]
    · refine ⟨?_, ?_, ?_, ⟨[], ⟨str [], str [], 0, []⟩, .what⟩, by simpa [offs] using hP, by simp, by simp, ?_, ?_, .inl ⟨rfl, rfl, 0, ?_, rfl⟩⟩
      all_goals simp -dsimp -implicitDefEqProofs (maxSteps := 1000000) (disch := first | omega | (simp only [List.length_append, List.length_cons, List.length_nil]; omega) | (intros; simp only [ne_eq, reduceCtorEq, not_false_eq_true] <;> fail)) only [DL.R, Nat.reduceEqDiff, ↓reduceIte, reduceCtorEq, Int.reduceToNat, Int.reduceLE, Int.reduceLT, Nat.reduceLeDiff, Nat.reduceAdd, Nat.reduceMul, Int.reduceBNe, Int.reduceBEq, Int.cast_ofNat_Int, decide_true, decide_false, ne_eq, eq_self, implies_true, DL.dI, DL.dB, DL.dS, offs, List.take_zero]
      all_goals rfl
    · rintro k s' H' hk ht ⟨g0, g4, g8, p, hR, ho, hw, g6, g9, hh⟩
      have hofk := offs_take ts k
      by_cases c1 : k < ts.length
      · have f1 : decide ((k : Int) < (ts.length : Int)) = true := decide_eq_true (by omega)
        obtain ⟨tk, htk⟩ : ∃ t, ts[k] = t := ⟨_, rfl⟩
        obtain ⟨x, bf⟩ := tk
        have hdr : ts.drop k = ⟨x, bf⟩ :: ts.drop (k + 1) := by rw [List.drop_eq_getElem_cons c1, htk]
        have hta : ts.take (k + 1) = ts.take k ++ [⟨x, bf⟩] := by rw [List.take_succ_eq_append_getElem c1, htk]
        have hof1 : offs (ts.take (k + 1)) = offs (ts.take k) + (bf.length + x.length) := by rw [hta, offs_snoc]
        have hofk1 := offs_take ts (k + 1)
        have hx16 : x.length ≤ 16 := by have := (k2 _ (List.getElem_mem c1)).1; rw [htk] at this; exact this
        rw [hdr, refRun] at hR
        have g4' : s' 4 = .sl (ts.map tokD) := g4
        have bad : (refStep p x).2 = false → refP l = ([], ((offs (ts.take k) + bf.length : Nat) : Int)) := fun h => by rw [hR, h]; rfl
        have good : (refStep p x).2 = true → refP l = refEnd l.length (refRun (ts.drop (k + 1)) (refStep p x).1 (offs (ts.take (k + 1)))) := fun h => by rw [hR, h, hof1]; simp only [if_true]; congr 2; omega
        have leave : ∀ (Gs : List O), (refStep p x).2 = false → ∃ Gs_1 d', H ++ Gs = H ++ Gs_1 ∧ Deep (H ++ DL.frzAll Gs_1) (.tup [.lit (.slice none 0 0), dI ((offs (ts.take k) : Int) + (bf.length : Int))]) d' ∧ Below H.length d' ∧ Q d' H := fun Gs h => by
          refine fin Gs _ ?_
          rw [bad h]
          simp only [parseD, Int.natCast_add]
          exact Deep.tup2 (Deep.nil _) (Deep.refl _ _)
        have hid4 : ∀ (m : List UInt8), x = m → (x == m) = true := fun m h => by simp [h]
        have hid5 : ∀ (m : List UInt8), x ≠ m → (x == m) = false := fun m h => by simp [h]
        obtain ⟨out, ⟨rw1, rmod, rn, rwho⟩, st⟩ := p
        simp only at ho hw
        rcases hh with ⟨hst, hout, ver, g7, rfl⟩ | ⟨hst, ver, v, b, Gs, g7, rfl⟩
        · simp only at hst hout
          subst hst
          subst hout
          simp -dsimp -implicitDefEqProofs (maxSteps := 1000000) (disch := first | omega | (simp only [List.length_append, List.length_cons, List.length_nil]; omega) | (intros; simp only [ne_eq, reduceCtorEq, not_false_eq_true] <;> fail)) only [DL.R, Nat.reduceEqDiff, ↓reduceIte, reduceCtorEq, Int.reduceToNat, Int.reduceLE, Int.reduceLT, Nat.reduceLeDiff, Nat.reduceAdd, Nat.reduceMul, Int.reduceBNe, Int.reduceBEq, Int.cast_ofNat_Int, decide_true, decide_false, ne_eq, eq_self, implies_true, dc15_r0, dc15_r1, dc15_r2, dc15_r3, dc15_r4, dc15_r5, dc15_r6, dc15_r7, dc15_r8, dc15_r9, dc15_r11, dc15_r12, dc15_r13, dc15_r14, dc15_r15, dc15_r16, dc15_r17, dc15_r18, dc15_r19, dc15_r20, dc15_r21, dc15_r22, dc15_r23, dc15_r24, dc15_r25, dc15_r26, dc15_r27, dc15_r28, dc15_r29, dc15_r30, dc15_r31, dc15_r32, dc15_r33, dc15_r34, dc15_r35, dc15_r36, dc15_r37, dc15_r38, dc15_r39, dc15_r40, dc15_r41, dc15_r42, dc15_r43, dc15_r44, dc15_r45, dc15_r46, dc15_r47, dc15_r48, dc15_r49, dc15_r50, dc15_r51, dc15_r52, dc15_r10, dc15_r53, dc15_r54, dc15_r55, dc15_r56, dc15_r57, dc15, DL.dI, DL.dB, DL.dS, g0, g4', g6, g7, g8, g9, ht, f1, htk, tokD, stU, stE, DL.wrap_id]
          refine whats_spec ?_
          simp -dsimp -implicitDefEqProofs (maxSteps := 1000000) (disch := first | omega | (simp only [List.length_append, List.length_cons, List.length_nil]; omega) | (intros; simp only [ne_eq, reduceCtorEq, not_false_eq_true] <;> fail)) only [DL.R, Nat.reduceEqDiff, ↓reduceIte, reduceCtorEq, Int.reduceToNat, Int.reduceLE, Int.reduceLT, Nat.reduceLeDiff, Nat.reduceAdd, Nat.reduceMul, Int.reduceBNe, Int.reduceBEq, Int.cast_ofNat_Int, decide_true, decide_false, ne_eq, eq_self, implies_true, dc15_r0, dc15_r1, dc15_r2, dc15_r3, dc15_r4, dc15_r5, dc15_r6, dc15_r7, dc15_r8, dc15_r9, dc15_r11, dc15_r12, dc15_r13, dc15_r14, dc15_r15, dc15_r16, dc15_r17, dc15_r18, dc15_r19, dc15_r20, dc15_r21, dc15_r22, dc15_r23, dc15_r24, dc15_r25, dc15_r26, dc15_r27, dc15_r28, dc15_r29, dc15_r30, dc15_r31, dc15_r32, dc15_r33, dc15_r34, dc15_r35, dc15_r36, dc15_r37, dc15_r38, dc15_r39, dc15_r40, dc15_r41, dc15_r42, dc15_r43, dc15_r44, dc15_r45, dc15_r46, dc15_r47, dc15_r48, dc15_r49, dc15_r50, dc15_r51, dc15_r52, dc15_r10, dc15_r53, dc15_r54, dc15_r55, dc15_r56, dc15_r57, dc15, DL.dI, DL.dB, DL.dS]
          refine has_spec _ _ (by decide) ?_
          by_cases hc : whatsL.contains x = true
          · have hs : refStep ⟨[], ⟨rw1, rmod, rn, rwho⟩, .what⟩ x = (⟨[], ⟨str x, str [], 0, []⟩, .inn⟩, true) := by simp only [refStep, PS.pre, PS.again, reduceCtorEq, decide_false, Bool.false_and, Bool.false_eq_true, if_false, hc]; rfl
            simp -dsimp -implicitDefEqProofs (maxSteps := 1000000) (disch := first | omega | (simp only [List.length_append, List.length_cons, List.length_nil]; omega) | (intros; simp only [ne_eq, reduceCtorEq, not_false_eq_true] <;> fail)) only [DL.R, Nat.reduceEqDiff, ↓reduceIte, reduceCtorEq, Int.reduceToNat, Int.reduceLE, Int.reduceLT, Nat.reduceLeDiff, Nat.reduceAdd, Nat.reduceMul, Int.reduceBNe, Int.reduceBEq, Int.cast_ofNat_Int, decide_true, decide_false, ne_eq, eq_self, implies_true, dc15_r0, dc15_r1, dc15_r2, dc15_r3, dc15_r4, dc15_r5, dc15_r6, dc15_r7, dc15_r8, dc15_r9, dc15_r11, dc15_r12, dc15_r13, dc15_r14, dc15_r15, dc15_r16, dc15_r17, dc15_r18, dc15_r19, dc15_r20, dc15_r21, dc15_r22, dc15_r23, dc15_r24, dc15_r25, dc15_r26, dc15_r27, dc15_r28, dc15_r29, dc15_r30, dc15_r31, dc15_r32, dc15_r33, dc15_r34, dc15_r35, dc15_r36, dc15_r37, dc15_r38, dc15_r39, dc15_r40, dc15_r41, dc15_r42, dc15_r43, dc15_r44, dc15_r45, dc15_r46, dc15_r47, dc15_r48, dc15_r49, dc15_r50, dc15_r51, dc15_r52, dc15_r10, dc15_r53, dc15_r54, dc15_r55, dc15_r56, dc15_r57, dc15, DL.dI, DL.dB, DL.dS, g0, g4', g6, g7, g8, g9, ht, f1, htk, tokD, stU, stE, hc, DL.wrap_id]
            refine ⟨by omega, ?_⟩
            simp -dsimp -implicitDefEqProofs (maxSteps := 1000000) (disch := first | omega | (simp only [List.length_append, List.length_cons, List.length_nil]; omega) | (intros; simp only [ne_eq, reduceCtorEq, not_false_eq_true] <;> fail)) only [DL.R, Nat.reduceEqDiff, ↓reduceIte, reduceCtorEq, Int.reduceToNat, Int.reduceLE, Int.reduceLT, Nat.reduceLeDiff, Nat.reduceAdd, Nat.reduceMul, Int.reduceBNe, Int.reduceBEq, Int.cast_ofNat_Int, decide_true, decide_false, ne_eq, eq_self, implies_true, dc15_r0, dc15_r1, dc15_r2, dc15_r3, dc15_r4, dc15_r5, dc15_r6, dc15_r7, dc15_r8, dc15_r9, dc15_r11, dc15_r12, dc15_r13, dc15_r14, dc15_r15, dc15_r16, dc15_r17, dc15_r18, dc15_r19, dc15_r20, dc15_r21, dc15_r22, dc15_r23, dc15_r24, dc15_r25, dc15_r26, dc15_r27, dc15_r28, dc15_r29, dc15_r30, dc15_r31, dc15_r32, dc15_r33, dc15_r34, dc15_r35, dc15_r36, dc15_r37, dc15_r38, dc15_r39, dc15_r40, dc15_r41, dc15_r42, dc15_r43, dc15_r44, dc15_r45, dc15_r46, dc15_r47, dc15_r48, dc15_r49, dc15_r50, dc15_r51, dc15_r52, dc15_r10, dc15_r53, dc15_r54, dc15_r55, dc15_r56, dc15_r57, dc15, DL.dI, DL.dB, DL.dS, g0, g4', g6, g7, g8, g9, ht, f1, htk, tokD, stU, stE, hc, RI, RIh, DL.wrap_id]
            exact ⟨c1, rfl, ⟨[], ⟨str x, str [], 0, []⟩, .inn⟩, by have := good (by rw [hs]); rw [hs] at this; exact this, by simp, by simp, by rw [hof1]; simp [Int.add_assoc], rfl, .inr ⟨by simp, ver, 0, true, [], rfl, rfl⟩⟩
          · have hc' : whatsL.contains x = false := by simpa using hc
            have hs : (refStep ⟨[], ⟨rw1, rmod, rn, rwho⟩, .what⟩ x).2 = false := by simp only [refStep, PS.pre, PS.again, reduceCtorEq, decide_false, Bool.false_and, Bool.false_eq_true, if_false, hc'] <;> rfl
            simp -dsimp -implicitDefEqProofs (maxSteps := 1000000) (disch := first | omega | (simp only [List.length_append, List.length_cons, List.length_nil]; omega) | (intros; simp only [ne_eq, reduceCtorEq, not_false_eq_true] <;> fail)) only [DL.R, Nat.reduceEqDiff, ↓reduceIte, reduceCtorEq, Int.reduceToNat, Int.reduceLE, Int.reduceLT, Nat.reduceLeDiff, Nat.reduceAdd, Nat.reduceMul, Int.reduceBNe, Int.reduceBEq, Int.cast_ofNat_Int, decide_true, decide_false, ne_eq, eq_self, implies_true, dc15_r0, dc15_r1, dc15_r2, dc15_r3, dc15_r4, dc15_r5, dc15_r6, dc15_r7, dc15_r8, dc15_r9, dc15_r11, dc15_r12, dc15_r13, dc15_r14, dc15_r15, dc15_r16, dc15_r17, dc15_r18, dc15_r19, dc15_r20, dc15_r21, dc15_r22, dc15_r23, dc15_r24, dc15_r25, dc15_r26, dc15_r27, dc15_r28, dc15_r29, dc15_r30, dc15_r31, dc15_r32, dc15_r33, dc15_r34, dc15_r35, dc15_r36, dc15_r37, dc15_r38, dc15_r39, dc15_r40, dc15_r41, dc15_r42, dc15_r43, dc15_r44, dc15_r45, dc15_r46, dc15_r47, dc15_r48, dc15_r49, dc15_r50, dc15_r51, dc15_r52, dc15_r10, dc15_r53, dc15_r54, dc15_r55, dc15_r56, dc15_r57, dc15, DL.dI, DL.dB, DL.dS, g0, g4', g6, g7, g8, g9, ht, f1, htk, tokD, stU, stE, hc', DL.wrap_id]
            refine ⟨by omega, ?_⟩
            exact leave _ hs
        · cases st with
          | what => exact absurd rfl hst
          | inn =>
            by_cases x1 : x = [105, 110]
            · have q1 := hid4 _ x1
              have hs : refStep ⟨out, ⟨rw1, rmod, rn, rwho⟩, .inn⟩ x = (⟨out, ⟨rw1, rmod, rn, rwho⟩, .name⟩, true) := by simp only [refStep, PS.pre, PS.again, reduceCtorEq, decide_false, decide_true, Bool.false_and, Bool.true_and, Bool.and_false, Bool.and_true, Bool.false_or, Bool.true_or, Bool.or_true, Bool.or_false, Bool.false_eq_true, if_false, if_true, q1, x1] <;> rfl
              simp -dsimp -implicitDefEqProofs (maxSteps := 1000000) (disch := first | omega | (simp only [List.length_append, List.length_cons, List.length_nil]; omega) | (intros; simp only [ne_eq, reduceCtorEq, not_false_eq_true] <;> fail)) only [DL.R, Nat.reduceEqDiff, ↓reduceIte, reduceCtorEq, Int.reduceToNat, Int.reduceLE, Int.reduceLT, Nat.reduceLeDiff, Nat.reduceAdd, Nat.reduceMul, Int.reduceBNe, Int.reduceBEq, Int.cast_ofNat_Int, decide_true, decide_false, ne_eq, eq_self, implies_true, dc15_r0, dc15_r1, dc15_r2, dc15_r3, dc15_r4, dc15_r5, dc15_r6, dc15_r7, dc15_r8, dc15_r9, dc15_r11, dc15_r12, dc15_r13, dc15_r14, dc15_r15, dc15_r16, dc15_r17, dc15_r18, dc15_r19, dc15_r20, dc15_r21, dc15_r22, dc15_r23, dc15_r24, dc15_r25, dc15_r26, dc15_r27, dc15_r28, dc15_r29, dc15_r30, dc15_r31, dc15_r32, dc15_r33, dc15_r34, dc15_r35, dc15_r36, dc15_r37, dc15_r38, dc15_r39, dc15_r40, dc15_r41, dc15_r42, dc15_r43, dc15_r44, dc15_r45, dc15_r46, dc15_r47, dc15_r48, dc15_r49, dc15_r50, dc15_r51, dc15_r52, dc15_r10, dc15_r53, dc15_r54, dc15_r55, dc15_r56, dc15_r57, dc15, DL.dI, DL.dB, DL.dS, g0, g4', g6, g7, g8, g9, ht, f1, htk, tokD, stU, stE, q1, RI, RIh, DL.wrap_id]
              exact ⟨c1, rfl, ⟨out, ⟨rw1, rmod, rn, rwho⟩, .name⟩, by have := good (by rw [hs]); rw [hs] at this; exact this, by simp; omega, by simp; omega, by rw [hof1]; simp [Int.add_assoc], rfl, .inr ⟨by simp, ver, v, b, Gs, rfl, rfl⟩⟩
            · have q1 := hid5 _ x1
              by_cases x2 : x = [58]
              · have q2 := hid4 _ x2
                have hs : refStep ⟨out, ⟨rw1, rmod, rn, rwho⟩, .inn⟩ x = (⟨out, ⟨rw1, rmod, rn, rwho⟩, .count⟩, true) := by simp only [refStep, PS.pre, PS.again, reduceCtorEq, decide_false, decide_true, Bool.false_and, Bool.true_and, Bool.and_false, Bool.and_true, Bool.false_or, Bool.true_or, Bool.or_true, Bool.or_false, Bool.false_eq_true, if_false, if_true, q1, q2, x1] <;> rfl
                simp -dsimp -implicitDefEqProofs (maxSteps := 1000000) (disch := first | omega | (simp only [List.length_append, List.length_cons, List.length_nil]; omega) | (intros; simp only [ne_eq, reduceCtorEq, not_false_eq_true] <;> fail)) only [DL.R, Nat.reduceEqDiff, ↓reduceIte, reduceCtorEq, Int.reduceToNat, Int.reduceLE, Int.reduceLT, Nat.reduceLeDiff, Nat.reduceAdd, Nat.reduceMul, Int.reduceBNe, Int.reduceBEq, Int.cast_ofNat_Int, decide_true, decide_false, ne_eq, eq_self, implies_true, dc15_r0, dc15_r1, dc15_r2, dc15_r3, dc15_r4, dc15_r5, dc15_r6, dc15_r7, dc15_r8, dc15_r9, dc15_r11, dc15_r12, dc15_r13, dc15_r14, dc15_r15, dc15_r16, dc15_r17, dc15_r18, dc15_r19, dc15_r20, dc15_r21, dc15_r22, dc15_r23, dc15_r24, dc15_r25, dc15_r26, dc15_r27, dc15_r28, dc15_r29, dc15_r30, dc15_r31, dc15_r32, dc15_r33, dc15_r34, dc15_r35, dc15_r36, dc15_r37, dc15_r38, dc15_r39, dc15_r40, dc15_r41, dc15_r42, dc15_r43, dc15_r44, dc15_r45, dc15_r46, dc15_r47, dc15_r48, dc15_r49, dc15_r50, dc15_r51, dc15_r52, dc15_r10, dc15_r53, dc15_r54, dc15_r55, dc15_r56, dc15_r57, dc15, DL.dI, DL.dB, DL.dS, g0, g4', g6, g7, g8, g9, ht, f1, htk, tokD, stU, stE, q1, q2, RI, RIh, DL.wrap_id]
                exact ⟨c1, rfl, ⟨out, ⟨rw1, rmod, rn, rwho⟩, .count⟩, by have := good (by rw [hs]); rw [hs] at this; exact this, by simp; omega, by simp; omega, by rw [hof1]; simp [Int.add_assoc], rfl, .inr ⟨by simp, ver, v, b, Gs, rfl, rfl⟩⟩
              · have q2 := hid5 _ x2
                have hs : (refStep ⟨out, ⟨rw1, rmod, rn, rwho⟩, .inn⟩ x).2 = false := by simp only [refStep, PS.pre, PS.again, reduceCtorEq, decide_false, decide_true, Bool.false_and, Bool.true_and, Bool.and_false, Bool.and_true, Bool.false_or, Bool.true_or, Bool.or_true, Bool.or_false, Bool.false_eq_true, if_false, if_true, q1, q2, x1] <;> rfl
                simp -dsimp -implicitDefEqProofs (maxSteps := 1000000) (disch := first | omega | (simp only [List.length_append, List.length_cons, List.length_nil]; omega) | (intros; simp only [ne_eq, reduceCtorEq, not_false_eq_true] <;> fail)) only [DL.R, Nat.reduceEqDiff, ↓reduceIte, reduceCtorEq, Int.reduceToNat, Int.reduceLE, Int.reduceLT, Nat.reduceLeDiff, Nat.reduceAdd, Nat.reduceMul, Int.reduceBNe, Int.reduceBEq, Int.cast_ofNat_Int, decide_true, decide_false, ne_eq, eq_self, implies_true, dc15_r0, dc15_r1, dc15_r2, dc15_r3, dc15_r4, dc15_r5, dc15_r6, dc15_r7, dc15_r8, dc15_r9, dc15_r11, dc15_r12, dc15_r13, dc15_r14, dc15_r15, dc15_r16, dc15_r17, dc15_r18, dc15_r19, dc15_r20, dc15_r21, dc15_r22, dc15_r23, dc15_r24, dc15_r25, dc15_r26, dc15_r27, dc15_r28, dc15_r29, dc15_r30, dc15_r31, dc15_r32, dc15_r33, dc15_r34, dc15_r35, dc15_r36, dc15_r37, dc15_r38, dc15_r39, dc15_r40, dc15_r41, dc15_r42, dc15_r43, dc15_r44, dc15_r45, dc15_r46, dc15_r47, dc15_r48, dc15_r49, dc15_r50, dc15_r51, dc15_r52, dc15_r10, dc15_r53, dc15_r54, dc15_r55, dc15_r56, dc15_r57, dc15, DL.dI, DL.dB, DL.dS, g0, g4', g6, g7, g8, g9, ht, f1, htk, tokD, stU, stE, q1, q2, DL.wrap_id]
                exact leave _ hs
          | name =>
            simp -dsimp -implicitDefEqProofs (maxSteps := 1000000) (disch := first | omega | (simp only [List.length_append, List.length_cons, List.length_nil]; omega) | (intros; simp only [ne_eq, reduceCtorEq, not_false_eq_true] <;> fail)) only [DL.R, Nat.reduceEqDiff, ↓reduceIte, reduceCtorEq, Int.reduceToNat, Int.reduceLE, Int.reduceLT, Nat.reduceLeDiff, Nat.reduceAdd, Nat.reduceMul, Int.reduceBNe, Int.reduceBEq, Int.cast_ofNat_Int, decide_true, decide_false, ne_eq, eq_self, implies_true, dc15_r0, dc15_r1, dc15_r2, dc15_r3, dc15_r4, dc15_r5, dc15_r6, dc15_r7, dc15_r8, dc15_r9, dc15_r11, dc15_r12, dc15_r13, dc15_r14, dc15_r15, dc15_r16, dc15_r17, dc15_r18, dc15_r19, dc15_r20, dc15_r21, dc15_r22, dc15_r23, dc15_r24, dc15_r25, dc15_r26, dc15_r27, dc15_r28, dc15_r29, dc15_r30, dc15_r31, dc15_r32, dc15_r33, dc15_r34, dc15_r35, dc15_r36, dc15_r37, dc15_r38, dc15_r39, dc15_r40, dc15_r41, dc15_r42, dc15_r43, dc15_r44, dc15_r45, dc15_r46, dc15_r47, dc15_r48, dc15_r49, dc15_r50, dc15_r51, dc15_r52, dc15_r10, dc15_r53, dc15_r54, dc15_r55, dc15_r56, dc15_r57, dc15, DL.dI, DL.dB, DL.dS, g0, g4', g6, g7, g8, g9, ht, f1, htk, tokD, stU, stE, DL.wrap_id]
            refine word05_spec x (by omega) ?_
            by_cases x1 : isWord kwL x = true
            · have hs : refStep ⟨out, ⟨rw1, rmod, rn, rwho⟩, .name⟩ x = (⟨out, ⟨rw1, str x, rn, rwho⟩, .colon⟩, true) := by simp only [refStep, PS.pre, PS.again, reduceCtorEq, decide_false, decide_true, Bool.false_and, Bool.true_and, Bool.and_false, Bool.and_true, Bool.false_or, Bool.true_or, Bool.or_true, Bool.or_false, Bool.false_eq_true, if_false, if_true, x1] <;> rfl
              simp -dsimp -implicitDefEqProofs (maxSteps := 1000000) (disch := first | omega | (simp only [List.length_append, List.length_cons, List.length_nil]; omega) | (intros; simp only [ne_eq, reduceCtorEq, not_false_eq_true] <;> fail)) only [DL.R, Nat.reduceEqDiff, ↓reduceIte, reduceCtorEq, Int.reduceToNat, Int.reduceLE, Int.reduceLT, Nat.reduceLeDiff, Nat.reduceAdd, Nat.reduceMul, Int.reduceBNe, Int.reduceBEq, Int.cast_ofNat_Int, decide_true, decide_false, ne_eq, eq_self, implies_true, dc15_r0, dc15_r1, dc15_r2, dc15_r3, dc15_r4, dc15_r5, dc15_r6, dc15_r7, dc15_r8, dc15_r9, dc15_r11, dc15_r12, dc15_r13, dc15_r14, dc15_r15, dc15_r16, dc15_r17, dc15_r18, dc15_r19, dc15_r20, dc15_r21, dc15_r22, dc15_r23, dc15_r24, dc15_r25, dc15_r26, dc15_r27, dc15_r28, dc15_r29, dc15_r30, dc15_r31, dc15_r32, dc15_r33, dc15_r34, dc15_r35, dc15_r36, dc15_r37, dc15_r38, dc15_r39, dc15_r40, dc15_r41, dc15_r42, dc15_r43, dc15_r44, dc15_r45, dc15_r46, dc15_r47, dc15_r48, dc15_r49, dc15_r50, dc15_r51, dc15_r52, dc15_r10, dc15_r53, dc15_r54, dc15_r55, dc15_r56, dc15_r57, dc15, DL.dI, DL.dB, DL.dS, g0, g4', g6, g7, g8, g9, ht, f1, htk, tokD, stU, stE, x1, RI, RIh, DL.wrap_id]
              exact ⟨c1, rfl, ⟨out, ⟨rw1, str x, rn, rwho⟩, .colon⟩, by have := good (by rw [hs]); rw [hs] at this; exact this, by simp; omega, by simp; omega, by rw [hof1]; simp [Int.add_assoc], rfl, .inr ⟨by simp, ver, v, b, Gs, rfl, rfl⟩⟩
            · have x1' : isWord kwL x = false := by simpa using x1
              have hs : (refStep ⟨out, ⟨rw1, rmod, rn, rwho⟩, .name⟩ x).2 = false := by simp only [refStep, PS.pre, PS.again, reduceCtorEq, decide_false, decide_true, Bool.false_and, Bool.true_and, Bool.and_false, Bool.and_true, Bool.false_or, Bool.true_or, Bool.or_true, Bool.or_false, Bool.false_eq_true, if_false, if_true, x1'] <;> rfl
              simp -dsimp -implicitDefEqProofs (maxSteps := 1000000) (disch := first | omega | (simp only [List.length_append, List.length_cons, List.length_nil]; omega) | (intros; simp only [ne_eq, reduceCtorEq, not_false_eq_true] <;> fail)) only [DL.R, Nat.reduceEqDiff, ↓reduceIte, reduceCtorEq, Int.reduceToNat, Int.reduceLE, Int.reduceLT, Nat.reduceLeDiff, Nat.reduceAdd, Nat.reduceMul, Int.reduceBNe, Int.reduceBEq, Int.cast_ofNat_Int, decide_true, decide_false, ne_eq, eq_self, implies_true, dc15_r0, dc15_r1, dc15_r2, dc15_r3, dc15_r4, dc15_r5, dc15_r6, dc15_r7, dc15_r8, dc15_r9, dc15_r11, dc15_r12, dc15_r13, dc15_r14, dc15_r15, dc15_r16, dc15_r17, dc15_r18, dc15_r19, dc15_r20, dc15_r21, dc15_r22, dc15_r23, dc15_r24, dc15_r25, dc15_r26, dc15_r27, dc15_r28, dc15_r29, dc15_r30, dc15_r31, dc15_r32, dc15_r33, dc15_r34, dc15_r35, dc15_r36, dc15_r37, dc15_r38, dc15_r39, dc15_r40, dc15_r41, dc15_r42, dc15_r43, dc15_r44, dc15_r45, dc15_r46, dc15_r47, dc15_r48, dc15_r49, dc15_r50, dc15_r51, dc15_r52, dc15_r10, dc15_r53, dc15_r54, dc15_r55, dc15_r56, dc15_r57, dc15, DL.dI, DL.dB, DL.dS, g0, g4', g6, g7, g8, g9, ht, f1, htk, tokD, stU, stE, x1', DL.wrap_id]
              exact leave _ hs
          | colon =>
            by_cases x1 : x = [58]
            · have q1 := hid4 _ x1
              have hs : refStep ⟨out, ⟨rw1, rmod, rn, rwho⟩, .colon⟩ x = (⟨out, ⟨rw1, rmod, rn, rwho⟩, .count⟩, true) := by simp only [refStep, PS.pre, PS.again, reduceCtorEq, decide_false, decide_true, Bool.false_and, Bool.true_and, Bool.and_false, Bool.and_true, Bool.false_or, Bool.true_or, Bool.or_true, Bool.or_false, Bool.false_eq_true, if_false, if_true, q1] <;> rfl
              simp -dsimp -implicitDefEqProofs (maxSteps := 1000000) (disch := first | omega | (simp only [List.length_append, List.length_cons, List.length_nil]; omega) | (intros; simp only [ne_eq, reduceCtorEq, not_false_eq_true] <;> fail)) only [DL.R, Nat.reduceEqDiff, ↓reduceIte, reduceCtorEq, Int.reduceToNat, Int.reduceLE, Int.reduceLT, Nat.reduceLeDiff, Nat.reduceAdd, Nat.reduceMul, Int.reduceBNe, Int.reduceBEq, Int.cast_ofNat_Int, decide_true, decide_false, ne_eq, eq_self, implies_true, dc15_r0, dc15_r1, dc15_r2, dc15_r3, dc15_r4, dc15_r5, dc15_r6, dc15_r7, dc15_r8, dc15_r9, dc15_r11, dc15_r12, dc15_r13, dc15_r14, dc15_r15, dc15_r16, dc15_r17, dc15_r18, dc15_r19, dc15_r20, dc15_r21, dc15_r22, dc15_r23, dc15_r24, dc15_r25, dc15_r26, dc15_r27, dc15_r28, dc15_r29, dc15_r30, dc15_r31, dc15_r32, dc15_r33, dc15_r34, dc15_r35, dc15_r36, dc15_r37, dc15_r38, dc15_r39, dc15_r40, dc15_r41, dc15_r42, dc15_r43, dc15_r44, dc15_r45, dc15_r46, dc15_r47, dc15_r48, dc15_r49, dc15_r50, dc15_r51, dc15_r52, dc15_r10, dc15_r53, dc15_r54, dc15_r55, dc15_r56, dc15_r57, dc15, DL.dI, DL.dB, DL.dS, g0, g4', g6, g7, g8, g9, ht, f1, htk, tokD, stU, stE, q1, RI, RIh, DL.wrap_id]
              exact ⟨c1, rfl, ⟨out, ⟨rw1, rmod, rn, rwho⟩, .count⟩, by have := good (by rw [hs]); rw [hs] at this; exact this, by simp; omega, by simp; omega, by rw [hof1]; simp [Int.add_assoc], rfl, .inr ⟨by simp, ver, v, b, Gs, rfl, rfl⟩⟩
            · have q1 := hid5 _ x1
              have hs : (refStep ⟨out, ⟨rw1, rmod, rn, rwho⟩, .colon⟩ x).2 = false := by simp only [refStep, PS.pre, PS.again, reduceCtorEq, decide_false, decide_true, Bool.false_and, Bool.true_and, Bool.and_false, Bool.and_true, Bool.false_or, Bool.true_or, Bool.or_true, Bool.or_false, Bool.false_eq_true, if_false, if_true, q1] <;> rfl
              simp -dsimp -implicitDefEqProofs (maxSteps := 1000000) (disch := first | omega | (simp only [List.length_append, List.length_cons, List.length_nil]; omega) | (intros; simp only [ne_eq, reduceCtorEq, not_false_eq_true] <;> fail)) only [DL.R, Nat.reduceEqDiff, ↓reduceIte, reduceCtorEq, Int.reduceToNat, Int.reduceLE, Int.reduceLT, Nat.reduceLeDiff, Nat.reduceAdd, Nat.reduceMul, Int.reduceBNe, Int.reduceBEq, Int.cast_ofNat_Int, decide_true, decide_false, ne_eq, eq_self, implies_true, dc15_r0, dc15_r1, dc15_r2, dc15_r3, dc15_r4, dc15_r5, dc15_r6, dc15_r7, dc15_r8, dc15_r9, dc15_r11, dc15_r12, dc15_r13, dc15_r14, dc15_r15, dc15_r16, dc15_r17, dc15_r18, dc15_r19, dc15_r20, dc15_r21, dc15_r22, dc15_r23, dc15_r24, dc15_r25, dc15_r26, dc15_r27, dc15_r28, dc15_r29, dc15_r30, dc15_r31, dc15_r32, dc15_r33, dc15_r34, dc15_r35, dc15_r36, dc15_r37, dc15_r38, dc15_r39, dc15_r40, dc15_r41, dc15_r42, dc15_r43, dc15_r44, dc15_r45, dc15_r46, dc15_r47, dc15_r48, dc15_r49, dc15_r50, dc15_r51, dc15_r52, dc15_r10, dc15_r53, dc15_r54, dc15_r55, dc15_r56, dc15_r57, dc15, DL.dI, DL.dB, DL.dS, g0, g4', g6, g7, g8, g9, ht, f1, htk, tokD, stU, stE, q1, DL.wrap_id]
              exact leave _ hs
          | of_ =>
            by_cases x1 : x = [111, 102]
            · have q1 := hid4 _ x1
              have hs : refStep ⟨out, ⟨rw1, rmod, rn, rwho⟩, .of_⟩ x = (⟨out, ⟨rw1, rmod, rn, rwho⟩, .who⟩, true) := by simp only [refStep, PS.pre, PS.again, reduceCtorEq, decide_false, decide_true, Bool.false_and, Bool.true_and, Bool.and_false, Bool.and_true, Bool.false_or, Bool.true_or, Bool.or_true, Bool.or_false, Bool.false_eq_true, if_false, if_true, q1] <;> rfl
              simp -dsimp -implicitDefEqProofs (maxSteps := 1000000) (disch := first | omega | (simp only [List.length_append, List.length_cons, List.length_nil]; omega) | (intros; simp only [ne_eq, reduceCtorEq, not_false_eq_true] <;> fail)) only [DL.R, Nat.reduceEqDiff, ↓reduceIte, reduceCtorEq, Int.reduceToNat, Int.reduceLE, Int.reduceLT, Nat.reduceLeDiff, Nat.reduceAdd, Nat.reduceMul, Int.reduceBNe, Int.reduceBEq, Int.cast_ofNat_Int, decide_true, decide_false, ne_eq, eq_self, implies_true, dc15_r0, dc15_r1, dc15_r2, dc15_r3, dc15_r4, dc15_r5, dc15_r6, dc15_r7, dc15_r8, dc15_r9, dc15_r11, dc15_r12, dc15_r13, dc15_r14, dc15_r15, dc15_r16, dc15_r17, dc15_r18, dc15_r19, dc15_r20, dc15_r21, dc15_r22, dc15_r23, dc15_r24, dc15_r25, dc15_r26, dc15_r27, dc15_r28, dc15_r29, dc15_r30, dc15_r31, dc15_r32, dc15_r33, dc15_r34, dc15_r35, dc15_r36, dc15_r37, dc15_r38, dc15_r39, dc15_r40, dc15_r41, dc15_r42, dc15_r43, dc15_r44, dc15_r45, dc15_r46, dc15_r47, dc15_r48, dc15_r49, dc15_r50, dc15_r51, dc15_r52, dc15_r10, dc15_r53, dc15_r54, dc15_r55, dc15_r56, dc15_r57, dc15, DL.dI, DL.dB, DL.dS, g0, g4', g6, g7, g8, g9, ht, f1, htk, tokD, stU, stE, q1, RI, RIh, DL.wrap_id]
              exact ⟨c1, rfl, ⟨out, ⟨rw1, rmod, rn, rwho⟩, .who⟩, by have := good (by rw [hs]); rw [hs] at this; exact this, by simp; omega, by simp; omega, by rw [hof1]; simp [Int.add_assoc], rfl, .inr ⟨by simp, ver, v, b, Gs, rfl, rfl⟩⟩
            · have q1 := hid5 _ x1
              have hs : (refStep ⟨out, ⟨rw1, rmod, rn, rwho⟩, .of_⟩ x).2 = false := by simp only [refStep, PS.pre, PS.again, reduceCtorEq, decide_false, decide_true, Bool.false_and, Bool.true_and, Bool.and_false, Bool.and_true, Bool.false_or, Bool.true_or, Bool.or_true, Bool.or_false, Bool.false_eq_true, if_false, if_true, q1] <;> rfl
              simp -dsimp -implicitDefEqProofs (maxSteps := 1000000) (disch := first | omega | (simp only [List.length_append, List.length_cons, List.length_nil]; omega) | (intros; simp only [ne_eq, reduceCtorEq, not_false_eq_true] <;> fail)) only [DL.R, Nat.reduceEqDiff, ↓reduceIte, reduceCtorEq, Int.reduceToNat, Int.reduceLE, Int.reduceLT, Nat.reduceLeDiff, Nat.reduceAdd, Nat.reduceMul, Int.reduceBNe, Int.reduceBEq, Int.cast_ofNat_Int, decide_true, decide_false, ne_eq, eq_self, implies_true, dc15_r0, dc15_r1, dc15_r2, dc15_r3, dc15_r4, dc15_r5, dc15_r6, dc15_r7, dc15_r8, dc15_r9, dc15_r11, dc15_r12, dc15_r13, dc15_r14, dc15_r15, dc15_r16, dc15_r17, dc15_r18, dc15_r19, dc15_r20, dc15_r21, dc15_r22, dc15_r23, dc15_r24, dc15_r25, dc15_r26, dc15_r27, dc15_r28, dc15_r29, dc15_r30, dc15_r31, dc15_r32, dc15_r33, dc15_r34, dc15_r35, dc15_r36, dc15_r37, dc15_r38, dc15_r39, dc15_r40, dc15_r41, dc15_r42, dc15_r43, dc15_r44, dc15_r45, dc15_r46, dc15_r47, dc15_r48, dc15_r49, dc15_r50, dc15_r51, dc15_r52, dc15_r10, dc15_r53, dc15_r54, dc15_r55, dc15_r56, dc15_r57, dc15, DL.dI, DL.dB, DL.dS, g0, g4', g6, g7, g8, g9, ht, f1, htk, tokD, stU, stE, q1, DL.wrap_id]
              exact leave _ hs
          | count =>
            simp -dsimp -implicitDefEqProofs (maxSteps := 1000000) (disch := first | omega | (simp only [List.length_append, List.length_cons, List.length_nil]; omega) | (intros; simp only [ne_eq, reduceCtorEq, not_false_eq_true] <;> fail)) only [DL.R, Nat.reduceEqDiff, ↓reduceIte, reduceCtorEq, Int.reduceToNat, Int.reduceLE, Int.reduceLT, Nat.reduceLeDiff, Nat.reduceAdd, Nat.reduceMul, Int.reduceBNe, Int.reduceBEq, Int.cast_ofNat_Int, decide_true, decide_false, ne_eq, eq_self, implies_true, dc15_r0, dc15_r1, dc15_r2, dc15_r3, dc15_r4, dc15_r5, dc15_r6, dc15_r7, dc15_r8, dc15_r9, dc15_r11, dc15_r12, dc15_r13, dc15_r14, dc15_r15, dc15_r16, dc15_r17, dc15_r18, dc15_r19, dc15_r20, dc15_r21, dc15_r22, dc15_r23, dc15_r24, dc15_r25, dc15_r26, dc15_r27, dc15_r28, dc15_r29, dc15_r30, dc15_r31, dc15_r32, dc15_r33, dc15_r34, dc15_r35, dc15_r36, dc15_r37, dc15_r38, dc15_r39, dc15_r40, dc15_r41, dc15_r42, dc15_r43, dc15_r44, dc15_r45, dc15_r46, dc15_r47, dc15_r48, dc15_r49, dc15_r50, dc15_r51, dc15_r52, dc15_r10, dc15_r53, dc15_r54, dc15_r55, dc15_r56, dc15_r57, dc15, DL.dI, DL.dB, DL.dS, g0, g4', g6, g7, g8, g9, ht, f1, htk, tokD, stU, stE, DL.wrap_id]
            refine rnumber_spec x (by omega) ?_
            obtain ⟨n, hn⟩ : ∃ n, numberF x = n := ⟨_, rfl⟩
            rw [hn]
            by_cases n1 : 1 ≤ n
            · have q1 : decide (n ≥ 1) = true := decide_eq_true n1
              have q1' : decide (1 ≤ n) = true := decide_eq_true n1
              by_cases n2 : n ≤ 8
              · have q2 : decide (n ≤ 8) = true := decide_eq_true n2
                have hs : refStep ⟨out, ⟨rw1, rmod, rn, rwho⟩, .count⟩ x = (⟨out, ⟨rw1, rmod, n, rwho⟩, .of_⟩, true) := by simp only [refStep, PS.pre, PS.again, reduceCtorEq, decide_false, decide_true, Bool.false_and, Bool.true_and, Bool.and_false, Bool.and_true, Bool.false_or, Bool.true_or, Bool.or_true, Bool.or_false, Bool.false_eq_true, if_false, if_true, hn, q1', q2] <;> rfl
                simp -dsimp -implicitDefEqProofs (maxSteps := 1000000) (disch := first | omega | (simp only [List.length_append, List.length_cons, List.length_nil]; omega) | (intros; simp only [ne_eq, reduceCtorEq, not_false_eq_true] <;> fail)) only [DL.R, Nat.reduceEqDiff, ↓reduceIte, reduceCtorEq, Int.reduceToNat, Int.reduceLE, Int.reduceLT, Nat.reduceLeDiff, Nat.reduceAdd, Nat.reduceMul, Int.reduceBNe, Int.reduceBEq, Int.cast_ofNat_Int, decide_true, decide_false, ne_eq, eq_self, implies_true, dc15_r0, dc15_r1, dc15_r2, dc15_r3, dc15_r4, dc15_r5, dc15_r6, dc15_r7, dc15_r8, dc15_r9, dc15_r11, dc15_r12, dc15_r13, dc15_r14, dc15_r15, dc15_r16, dc15_r17, dc15_r18, dc15_r19, dc15_r20, dc15_r21, dc15_r22, dc15_r23, dc15_r24, dc15_r25, dc15_r26, dc15_r27, dc15_r28, dc15_r29, dc15_r30, dc15_r31, dc15_r32, dc15_r33, dc15_r34, dc15_r35, dc15_r36, dc15_r37, dc15_r38, dc15_r39, dc15_r40, dc15_r41, dc15_r42, dc15_r43, dc15_r44, dc15_r45, dc15_r46, dc15_r47, dc15_r48, dc15_r49, dc15_r50, dc15_r51, dc15_r52, dc15_r10, dc15_r53, dc15_r54, dc15_r55, dc15_r56, dc15_r57, dc15, DL.dI, DL.dB, DL.dS, g0, g4', g6, g7, g8, g9, ht, f1, htk, tokD, stU, stE, q1, q2, RI, RIh, DL.wrap_id]
                exact ⟨c1, rfl, ⟨out, ⟨rw1, rmod, n, rwho⟩, .of_⟩, by have := good (by rw [hs]); rw [hs] at this; exact this, by simp; omega, by simp; omega, by rw [hof1]; simp [Int.add_assoc], rfl, .inr ⟨by simp, ver, v, b, Gs, rfl, rfl⟩⟩
              · have q2 : decide (n ≤ 8) = false := decide_eq_false n2
                have hs : (refStep ⟨out, ⟨rw1, rmod, rn, rwho⟩, .count⟩ x).2 = false := by simp only [refStep, PS.pre, PS.again, reduceCtorEq, decide_false, decide_true, Bool.false_and, Bool.true_and, Bool.and_false, Bool.and_true, Bool.false_or, Bool.true_or, Bool.or_true, Bool.or_false, Bool.false_eq_true, if_false, if_true, hn, q1', q2] <;> rfl
                simp -dsimp -implicitDefEqProofs (maxSteps := 1000000) (disch := first | omega | (simp only [List.length_append, List.length_cons, List.length_nil]; omega) | (intros; simp only [ne_eq, reduceCtorEq, not_false_eq_true] <;> fail)) only [DL.R, Nat.reduceEqDiff, ↓reduceIte, reduceCtorEq, Int.reduceToNat, Int.reduceLE, Int.reduceLT, Nat.reduceLeDiff, Nat.reduceAdd, Nat.reduceMul, Int.reduceBNe, Int.reduceBEq, Int.cast_ofNat_Int, decide_true, decide_false, ne_eq, eq_self, implies_true, dc15_r0, dc15_r1, dc15_r2, dc15_r3, dc15_r4, dc15_r5, dc15_r6, dc15_r7, dc15_r8, dc15_r9, dc15_r11, dc15_r12, dc15_r13, dc15_r14, dc15_r15, dc15_r16, dc15_r17, dc15_r18, dc15_r19, dc15_r20, dc15_r21, dc15_r22, dc15_r23, dc15_r24, dc15_r25, dc15_r26, dc15_r27, dc15_r28, dc15_r29, dc15_r30, dc15_r31, dc15_r32, dc15_r33, dc15_r34, dc15_r35, dc15_r36, dc15_r37, dc15_r38, dc15_r39, dc15_r40, dc15_r41, dc15_r42, dc15_r43, dc15_r44, dc15_r45, dc15_r46, dc15_r47, dc15_r48, dc15_r49, dc15_r50, dc15_r51, dc15_r52, dc15_r10, dc15_r53, dc15_r54, dc15_r55, dc15_r56, dc15_r57, dc15, DL.dI, DL.dB, DL.dS, g0, g4', g6, g7, g8, g9, ht, f1, htk, tokD, stU, stE, q1, q2, DL.wrap_id]
                exact leave _ hs
            · have q1 : decide (n ≥ 1) = false := decide_eq_false n1
              have q1' : decide (1 ≤ n) = false := decide_eq_false n1
              have hs : (refStep ⟨out, ⟨rw1, rmod, rn, rwho⟩, .count⟩ x).2 = false := by simp only [refStep, PS.pre, PS.again, reduceCtorEq, decide_false, decide_true, Bool.false_and, Bool.true_and, Bool.and_false, Bool.and_true, Bool.false_or, Bool.true_or, Bool.or_true, Bool.or_false, Bool.false_eq_true, if_false, if_true, hn, q1'] <;> rfl
              simp -dsimp -implicitDefEqProofs (maxSteps := 1000000) (disch := first | omega | (simp only [List.length_append, List.length_cons, List.length_nil]; omega) | (intros; simp only [ne_eq, reduceCtorEq, not_false_eq_true] <;> fail)) only [DL.R, Nat.reduceEqDiff, ↓reduceIte, reduceCtorEq, Int.reduceToNat, Int.reduceLE, Int.reduceLT, Nat.reduceLeDiff, Nat.reduceAdd, Nat.reduceMul, Int.reduceBNe, Int.reduceBEq, Int.cast_ofNat_Int, decide_true, decide_false, ne_eq, eq_self, implies_true, dc15_r0, dc15_r1, dc15_r2, dc15_r3, dc15_r4, dc15_r5, dc15_r6, dc15_r7, dc15_r8, dc15_r9, dc15_r11, dc15_r12, dc15_r13, dc15_r14, dc15_r15, dc15_r16, dc15_r17, dc15_r18, dc15_r19, dc15_r20, dc15_r21, dc15_r22, dc15_r23, dc15_r24, dc15_r25, dc15_r26, dc15_r27, dc15_r28, dc15_r29, dc15_r30, dc15_r31, dc15_r32, dc15_r33, dc15_r34, dc15_r35, dc15_r36, dc15_r37, dc15_r38, dc15_r39, dc15_r40, dc15_r41, dc15_r42, dc15_r43, dc15_r44, dc15_r45, dc15_r46, dc15_r47, dc15_r48, dc15_r49, dc15_r50, dc15_r51, dc15_r52, dc15_r10, dc15_r53, dc15_r54, dc15_r55, dc15_r56, dc15_r57, dc15, DL.dI, DL.dB, DL.dS, g0, g4', g6, g7, g8, g9, ht, f1, htk, tokD, stU, stE, q1, DL.wrap_id]
              exact leave _ hs
          | who =>
            have hil : (ints rwho).length = rwho.length := by simp [ints]
            simp -dsimp -implicitDefEqProofs (maxSteps := 1000000) (disch := first | omega | (simp only [List.length_append, List.length_cons, List.length_nil]; omega) | (intros; simp only [ne_eq, reduceCtorEq, not_false_eq_true] <;> fail)) only [DL.R, Nat.reduceEqDiff, ↓reduceIte, reduceCtorEq, Int.reduceToNat, Int.reduceLE, Int.reduceLT, Nat.reduceLeDiff, Nat.reduceAdd, Nat.reduceMul, Int.reduceBNe, Int.reduceBEq, Int.cast_ofNat_Int, decide_true, decide_false, ne_eq, eq_self, implies_true, dc15_r0, dc15_r1, dc15_r2, dc15_r3, dc15_r4, dc15_r5, dc15_r6, dc15_r7, dc15_r8, dc15_r9, dc15_r11, dc15_r12, dc15_r13, dc15_r14, dc15_r15, dc15_r16, dc15_r17, dc15_r18, dc15_r19, dc15_r20, dc15_r21, dc15_r22, dc15_r23, dc15_r24, dc15_r25, dc15_r26, dc15_r27, dc15_r28, dc15_r29, dc15_r30, dc15_r31, dc15_r32, dc15_r33, dc15_r34, dc15_r35, dc15_r36, dc15_r37, dc15_r38, dc15_r39, dc15_r40, dc15_r41, dc15_r42, dc15_r43, dc15_r44, dc15_r45, dc15_r46, dc15_r47, dc15_r48, dc15_r49, dc15_r50, dc15_r51, dc15_r52, dc15_r10, dc15_r53, dc15_r54, dc15_r55, dc15_r56, dc15_r57, dc15, DL.dI, DL.dB, DL.dS, g0, g4', g6, g7, g8, g9, ht, f1, htk, tokD, stU, stE, DL.wrap_id]
            refine rnumber_spec x (by omega) ?_
            obtain ⟨n, hn⟩ : ∃ n, numberF x = n := ⟨_, rfl⟩
            rw [hn]
            by_cases n1 : 0 ≤ n
            · have q1 : decide (n ≥ 0) = true := decide_eq_true n1
              have q1' : decide (0 ≤ n) = true := decide_eq_true n1
              by_cases n2 : n ≤ 7
              · have q2 : decide (n ≤ 7) = true := decide_eq_true n2
                by_cases n3 : rwho.length = 0
                · have q3 : ((rwho.length : Int) == 0) = true := by simp [n3]
                  have q3' : (rwho.length == 0) = true := by simp [n3]
                  have hs : refStep ⟨out, ⟨rw1, rmod, rn, rwho⟩, .who⟩ x = (⟨out, ⟨rw1, rmod, rn, rwho ++ [n]⟩, .more⟩, true) := by simp only [refStep, PS.pre, PS.again, reduceCtorEq, decide_false, decide_true, Bool.false_and, Bool.true_and, Bool.and_false, Bool.and_true, Bool.false_or, Bool.true_or, Bool.or_true, Bool.or_false, Bool.false_eq_true, if_false, if_true, hn, q1', q2, q3'] <;> rfl
                  simp -dsimp -implicitDefEqProofs (maxSteps := 1000000) (disch := first | omega | (simp only [List.length_append, List.length_cons, List.length_nil]; omega) | (intros; simp only [ne_eq, reduceCtorEq, not_false_eq_true] <;> fail)) only [DL.R, Nat.reduceEqDiff, ↓reduceIte, reduceCtorEq, Int.reduceToNat, Int.reduceLE, Int.reduceLT, Nat.reduceLeDiff, Nat.reduceAdd, Nat.reduceMul, Int.reduceBNe, Int.reduceBEq, Int.cast_ofNat_Int, decide_true, decide_false, ne_eq, eq_self, implies_true, dc15_r0, dc15_r1, dc15_r2, dc15_r3, dc15_r4, dc15_r5, dc15_r6, dc15_r7, dc15_r8, dc15_r9, dc15_r11, dc15_r12, dc15_r13, dc15_r14, dc15_r15, dc15_r16, dc15_r17, dc15_r18, dc15_r19, dc15_r20, dc15_r21, dc15_r22, dc15_r23, dc15_r24, dc15_r25, dc15_r26, dc15_r27, dc15_r28, dc15_r29, dc15_r30, dc15_r31, dc15_r32, dc15_r33, dc15_r34, dc15_r35, dc15_r36, dc15_r37, dc15_r38, dc15_r39, dc15_r40, dc15_r41, dc15_r42, dc15_r43, dc15_r44, dc15_r45, dc15_r46, dc15_r47, dc15_r48, dc15_r49, dc15_r50, dc15_r51, dc15_r52, dc15_r10, dc15_r53, dc15_r54, dc15_r55, dc15_r56, dc15_r57, dc15, DL.dI, DL.dB, DL.dS, g0, g4', g6, g7, g8, g9, ht, f1, htk, tokD, stU, stE, q1, q2, q3, hil, RI, RIh, DL.wrap_id]
                  exact ⟨by omega, c1, rfl, ⟨out, ⟨rw1, rmod, rn, rwho ++ [n]⟩, .more⟩, by have := good (by rw [hs]); rw [hs] at this; exact this, by simp; omega, by simp; omega, by rw [hof1]; simp [Int.add_assoc], rfl, .inr ⟨by simp, ver, v + 1, b, Gs, rfl, by rw [ints_snoc]⟩⟩
                · have q3 : ((rwho.length : Int) == 0) = false := beq_eq_false_iff_ne.2 (by omega)
                  have q3' : (rwho.length == 0) = false := beq_eq_false_iff_ne.2 n3
                  have hlt : rwho.length - 1 < rwho.length := by omega
                  have hz : (ints rwho)[rwho.length - 1]? = some (dI (rwho.getD (rwho.length - 1) 0)) := by
                    simp [ints, List.getD_eq_getElem?_getD, List.getElem?_eq_getElem hlt]
                  have hzn : ((rwho.length : Int) - 1).toNat = rwho.length - 1 := by omega
                  obtain ⟨last, hlast⟩ : ∃ z, rwho.getD (rwho.length - 1) 0 = z := ⟨_, rfl⟩
                  rw [hlast] at hz
                  by_cases n4 : last < n
                  · have q4 : decide (n > last) = true := decide_eq_true n4
                    have q4' : decide (last < n) = true := decide_eq_true n4
                    have hs : refStep ⟨out, ⟨rw1, rmod, rn, rwho⟩, .who⟩ x = (⟨out, ⟨rw1, rmod, rn, rwho ++ [n]⟩, .more⟩, true) := by simp only [refStep, PS.pre, PS.again, reduceCtorEq, decide_false, decide_true, Bool.false_and, Bool.true_and, Bool.and_false, Bool.and_true, Bool.false_or, Bool.true_or, Bool.or_true, Bool.or_false, Bool.false_eq_true, if_false, if_true, hn, q1', q2, q3', hlast, q4'] <;> rfl
                    simp -dsimp -implicitDefEqProofs (maxSteps := 1000000) (disch := first | omega | (simp only [List.length_append, List.length_cons, List.length_nil]; omega) | (intros; simp only [ne_eq, reduceCtorEq, not_false_eq_true] <;> fail)) only [DL.R, Nat.reduceEqDiff, ↓reduceIte, reduceCtorEq, Int.reduceToNat, Int.reduceLE, Int.reduceLT, Nat.reduceLeDiff, Nat.reduceAdd, Nat.reduceMul, Int.reduceBNe, Int.reduceBEq, Int.cast_ofNat_Int, decide_true, decide_false, ne_eq, eq_self, implies_true, dc15_r0, dc15_r1, dc15_r2, dc15_r3, dc15_r4, dc15_r5, dc15_r6, dc15_r7, dc15_r8, dc15_r9, dc15_r11, dc15_r12, dc15_r13, dc15_r14, dc15_r15, dc15_r16, dc15_r17, dc15_r18, dc15_r19, dc15_r20, dc15_r21, dc15_r22, dc15_r23, dc15_r24, dc15_r25, dc15_r26, dc15_r27, dc15_r28, dc15_r29, dc15_r30, dc15_r31, dc15_r32, dc15_r33, dc15_r34, dc15_r35, dc15_r36, dc15_r37, dc15_r38, dc15_r39, dc15_r40, dc15_r41, dc15_r42, dc15_r43, dc15_r44, dc15_r45, dc15_r46, dc15_r47, dc15_r48, dc15_r49, dc15_r50, dc15_r51, dc15_r52, dc15_r10, dc15_r53, dc15_r54, dc15_r55, dc15_r56, dc15_r57, dc15, DL.dI, DL.dB, DL.dS, g0, g4', g6, g7, g8, g9, ht, f1, htk, tokD, stU, stE, q1, q2, q3, hil, hzn, hz, q4, Option.some.injEq, exists_eq_left', RI, RIh, DL.wrap_id]
                    exact ⟨by omega, by omega, by omega, c1, rfl, ⟨out, ⟨rw1, rmod, rn, rwho ++ [n]⟩, .more⟩, by have := good (by rw [hs]); rw [hs] at this; exact this, by simp; omega, by simp; omega, by rw [hof1]; simp [Int.add_assoc], rfl, .inr ⟨by simp, ver, v + 1, b, Gs, rfl, by rw [ints_snoc]⟩⟩
                  · have q4 : decide (n > last) = false := decide_eq_false n4
                    have q4' : decide (last < n) = false := decide_eq_false n4
                    have hs : (refStep ⟨out, ⟨rw1, rmod, rn, rwho⟩, .who⟩ x).2 = false := by simp only [refStep, PS.pre, PS.again, reduceCtorEq, decide_false, decide_true, Bool.false_and, Bool.true_and, Bool.and_false, Bool.and_true, Bool.false_or, Bool.true_or, Bool.or_true, Bool.or_false, Bool.false_eq_true, if_false, if_true, hn, q1', q2, q3', hlast, q4'] <;> rfl
                    simp -dsimp -implicitDefEqProofs (maxSteps := 1000000) (disch := first | omega | (simp only [List.length_append, List.length_cons, List.length_nil]; omega) | (intros; simp only [ne_eq, reduceCtorEq, not_false_eq_true] <;> fail)) only [DL.R, Nat.reduceEqDiff, ↓reduceIte, reduceCtorEq, Int.reduceToNat, Int.reduceLE, Int.reduceLT, Nat.reduceLeDiff, Nat.reduceAdd, Nat.reduceMul, Int.reduceBNe, Int.reduceBEq, Int.cast_ofNat_Int, decide_true, decide_false, ne_eq, eq_self, implies_true, dc15_r0, dc15_r1, dc15_r2, dc15_r3, dc15_r4, dc15_r5, dc15_r6, dc15_r7, dc15_r8, dc15_r9, dc15_r11, dc15_r12, dc15_r13, dc15_r14, dc15_r15, dc15_r16, dc15_r17, dc15_r18, dc15_r19, dc15_r20, dc15_r21, dc15_r22, dc15_r23, dc15_r24, dc15_r25, dc15_r26, dc15_r27, dc15_r28, dc15_r29, dc15_r30, dc15_r31, dc15_r32, dc15_r33, dc15_r34, dc15_r35, dc15_r36, dc15_r37, dc15_r38, dc15_r39, dc15_r40, dc15_r41, dc15_r42, dc15_r43, dc15_r44, dc15_r45, dc15_r46, dc15_r47, dc15_r48, dc15_r49, dc15_r50, dc15_r51, dc15_r52, dc15_r10, dc15_r53, dc15_r54, dc15_r55, dc15_r56, dc15_r57, dc15, DL.dI, DL.dB, DL.dS, g0, g4', g6, g7, g8, g9, ht, f1, htk, tokD, stU, stE, q1, q2, q3, hil, hzn, hz, q4, Option.some.injEq, exists_eq_left', DL.wrap_id]
                    refine ⟨by omega, by omega, by omega, ?_⟩
                    exact leave _ hs
              · have q2 : decide (n ≤ 7) = false := decide_eq_false n2
                have hs : (refStep ⟨out, ⟨rw1, rmod, rn, rwho⟩, .who⟩ x).2 = false := by simp only [refStep, PS.pre, PS.again, reduceCtorEq, decide_false, decide_true, Bool.false_and, Bool.true_and, Bool.and_false, Bool.and_true, Bool.false_or, Bool.true_or, Bool.or_true, Bool.or_false, Bool.false_eq_true, if_false, if_true, hn, q1', q2] <;> rfl
                simp -dsimp -implicitDefEqProofs (maxSteps := 1000000) (disch := first | omega | (simp only [List.length_append, List.length_cons, List.length_nil]; omega) | (intros; simp only [ne_eq, reduceCtorEq, not_false_eq_true] <;> fail)) only [DL.R, Nat.reduceEqDiff, ↓reduceIte, reduceCtorEq, Int.reduceToNat, Int.reduceLE, Int.reduceLT, Nat.reduceLeDiff, Nat.reduceAdd, Nat.reduceMul, Int.reduceBNe, Int.reduceBEq, Int.cast_ofNat_Int, decide_true, decide_false, ne_eq, eq_self, implies_true, dc15_r0, dc15_r1, dc15_r2, dc15_r3, dc15_r4, dc15_r5, dc15_r6, dc15_r7, dc15_r8, dc15_r9, dc15_r11, dc15_r12, dc15_r13, dc15_r14, dc15_r15, dc15_r16, dc15_r17, dc15_r18, dc15_r19, dc15_r20, dc15_r21, dc15_r22, dc15_r23, dc15_r24, dc15_r25, dc15_r26, dc15_r27, dc15_r28, dc15_r29, dc15_r30, dc15_r31, dc15_r32, dc15_r33, dc15_r34, dc15_r35, dc15_r36, dc15_r37, dc15_r38, dc15_r39, dc15_r40, dc15_r41, dc15_r42, dc15_r43, dc15_r44, dc15_r45, dc15_r46, dc15_r47, dc15_r48, dc15_r49, dc15_r50, dc15_r51, dc15_r52, dc15_r10, dc15_r53, dc15_r54, dc15_r55, dc15_r56, dc15_r57, dc15, DL.dI, DL.dB, DL.dS, g0, g4', g6, g7, g8, g9, ht, f1, htk, tokD, stU, stE, q1, q2, hil, DL.wrap_id]
                refine ⟨by omega, ?_⟩
                exact leave _ hs
            · have q1 : decide (n ≥ 0) = false := decide_eq_false n1
              have q1' : decide (0 ≤ n) = false := decide_eq_false n1
              have hs : (refStep ⟨out, ⟨rw1, rmod, rn, rwho⟩, .who⟩ x).2 = false := by simp only [refStep, PS.pre, PS.again, reduceCtorEq, decide_false, decide_true, Bool.false_and, Bool.true_and, Bool.and_false, Bool.and_true, Bool.false_or, Bool.true_or, Bool.or_true, Bool.or_false, Bool.false_eq_true, if_false, if_true, hn, q1'] <;> rfl
              simp -dsimp -implicitDefEqProofs (maxSteps := 1000000) (disch := first | omega | (simp only [List.length_append, List.length_cons, List.length_nil]; omega) | (intros; simp only [ne_eq, reduceCtorEq, not_false_eq_true] <;> fail)) only [DL.R, Nat.reduceEqDiff, ↓reduceIte, reduceCtorEq, Int.reduceToNat, Int.reduceLE, Int.reduceLT, Nat.reduceLeDiff, Nat.reduceAdd, Nat.reduceMul, Int.reduceBNe, Int.reduceBEq, Int.cast_ofNat_Int, decide_true, decide_false, ne_eq, eq_self, implies_true, dc15_r0, dc15_r1, dc15_r2, dc15_r3, dc15_r4, dc15_r5, dc15_r6, dc15_r7, dc15_r8, dc15_r9, dc15_r11, dc15_r12, dc15_r13, dc15_r14, dc15_r15, dc15_r16, dc15_r17, dc15_r18, dc15_r19, dc15_r20, dc15_r21, dc15_r22, dc15_r23, dc15_r24, dc15_r25, dc15_r26, dc15_r27, dc15_r28, dc15_r29, dc15_r30, dc15_r31, dc15_r32, dc15_r33, dc15_r34, dc15_r35, dc15_r36, dc15_r37, dc15_r38, dc15_r39, dc15_r40, dc15_r41, dc15_r42, dc15_r43, dc15_r44, dc15_r45, dc15_r46, dc15_r47, dc15_r48, dc15_r49, dc15_r50, dc15_r51, dc15_r52, dc15_r10, dc15_r53, dc15_r54, dc15_r55, dc15_r56, dc15_r57, dc15, DL.dI, DL.dB, DL.dS, g0, g4', g6, g7, g8, g9, ht, f1, htk, tokD, stU, stE, q1, hil, DL.wrap_id]
              refine ⟨by omega, ?_⟩
              exact leave _ hs
          | more =>
            have hil : (ints rwho).length = rwho.length := by simp [ints]
            have hol : (rulesD out).length = out.length := rules_len out
            by_cases x1 : x = [44]
            · have q1 := hid4 _ x1
              have q1b : (x != [44]) = false := by simp [x1]
              have hs : refStep ⟨out, ⟨rw1, rmod, rn, rwho⟩, .more⟩ x = (⟨out, ⟨rw1, rmod, rn, rwho⟩, .who⟩, true) := by simp only [refStep, PS.pre, PS.again, reduceCtorEq, decide_false, decide_true, Bool.false_and, Bool.true_and, Bool.and_false, Bool.and_true, Bool.false_or, Bool.true_or, Bool.or_true, Bool.or_false, Bool.false_eq_true, if_false, if_true, q1, q1b] <;> rfl
              simp -dsimp -implicitDefEqProofs (maxSteps := 1000000) (disch := first | omega | (simp only [List.length_append, List.length_cons, List.length_nil]; omega) | (intros; simp only [ne_eq, reduceCtorEq, not_false_eq_true] <;> fail)) only [DL.R, Nat.reduceEqDiff, ↓reduceIte, reduceCtorEq, Int.reduceToNat, Int.reduceLE, Int.reduceLT, Nat.reduceLeDiff, Nat.reduceAdd, Nat.reduceMul, Int.reduceBNe, Int.reduceBEq, Int.cast_ofNat_Int, decide_true, decide_false, ne_eq, eq_self, implies_true, dc15_r0, dc15_r1, dc15_r2, dc15_r3, dc15_r4, dc15_r5, dc15_r6, dc15_r7, dc15_r8, dc15_r9, dc15_r11, dc15_r12, dc15_r13, dc15_r14, dc15_r15, dc15_r16, dc15_r17, dc15_r18, dc15_r19, dc15_r20, dc15_r21, dc15_r22, dc15_r23, dc15_r24, dc15_r25, dc15_r26, dc15_r27, dc15_r28, dc15_r29, dc15_r30, dc15_r31, dc15_r32, dc15_r33, dc15_r34, dc15_r35, dc15_r36, dc15_r37, dc15_r38, dc15_r39, dc15_r40, dc15_r41, dc15_r42, dc15_r43, dc15_r44, dc15_r45, dc15_r46, dc15_r47, dc15_r48, dc15_r49, dc15_r50, dc15_r51, dc15_r52, dc15_r10, dc15_r53, dc15_r54, dc15_r55, dc15_r56, dc15_r57, dc15, DL.dI, DL.dB, DL.dS, g0, g4', g6, g7, g8, g9, ht, f1, htk, tokD, stU, stE, q1, RI, RIh, DL.wrap_id]
              exact ⟨c1, rfl, ⟨out, ⟨rw1, rmod, rn, rwho⟩, .who⟩, by have := good (by rw [hs]); rw [hs] at this; exact this, by simp; omega, by simp; omega, by rw [hof1]; simp [Int.add_assoc], rfl, .inr ⟨by simp, ver, v, b, Gs, rfl, rfl⟩⟩
            · have q1 := hid5 _ x1
              have q1b : (x != [44]) = true := by simp [x1]
              by_cases hN : rn ≤ (rwho.length : Int)
              · have q2 : decide ((rwho.length : Int) ≥ rn) = true := decide_eq_true hN
                have q2' : decide (rn ≤ (rwho.length : Int)) = true := decide_eq_true hN
                simp -dsimp -implicitDefEqProofs (maxSteps := 1000000) (disch := first | omega | (simp only [List.length_append, List.length_cons, List.length_nil]; omega) | (intros; simp only [ne_eq, reduceCtorEq, not_false_eq_true] <;> fail)) only [DL.R, Nat.reduceEqDiff, ↓reduceIte, reduceCtorEq, Int.reduceToNat, Int.reduceLE, Int.reduceLT, Nat.reduceLeDiff, Nat.reduceAdd, Nat.reduceMul, Int.reduceBNe, Int.reduceBEq, Int.cast_ofNat_Int, decide_true, decide_false, ne_eq, eq_self, implies_true, dc15_r0, dc15_r1, dc15_r2, dc15_r3, dc15_r4, dc15_r5, dc15_r6, dc15_r7, dc15_r8, dc15_r9, dc15_r11, dc15_r12, dc15_r13, dc15_r14, dc15_r15, dc15_r16, dc15_r17, dc15_r18, dc15_r19, dc15_r20, dc15_r21, dc15_r22, dc15_r23, dc15_r24, dc15_r25, dc15_r26, dc15_r27, dc15_r28, dc15_r29, dc15_r30, dc15_r31, dc15_r32, dc15_r33, dc15_r34, dc15_r35, dc15_r36, dc15_r37, dc15_r38, dc15_r39, dc15_r40, dc15_r41, dc15_r42, dc15_r43, dc15_r44, dc15_r45, dc15_r46, dc15_r47, dc15_r48, dc15_r49, dc15_r50, dc15_r51, dc15_r52, dc15_r10, dc15_r53, dc15_r54, dc15_r55, dc15_r56, dc15_r57, dc15, DL.dI, DL.dB, DL.dS, g0, g4', g6, g7, g8, g9, ht, f1, htk, tokD, stU, stE, q1, q2, hil, hol, DL.wrap_id]
                refine ⟨by omega, ?_⟩
                refine whats_spec ?_
                simp -dsimp -implicitDefEqProofs (maxSteps := 1000000) (disch := first | omega | (simp only [List.length_append, List.length_cons, List.length_nil]; omega) | (intros; simp only [ne_eq, reduceCtorEq, not_false_eq_true] <;> fail)) only [DL.R, Nat.reduceEqDiff, ↓reduceIte, reduceCtorEq, Int.reduceToNat, Int.reduceLE, Int.reduceLT, Nat.reduceLeDiff, Nat.reduceAdd, Nat.reduceMul, Int.reduceBNe, Int.reduceBEq, Int.cast_ofNat_Int, decide_true, decide_false, ne_eq, eq_self, implies_true, dc15_r0, dc15_r1, dc15_r2, dc15_r3, dc15_r4, dc15_r5, dc15_r6, dc15_r7, dc15_r8, dc15_r9, dc15_r11, dc15_r12, dc15_r13, dc15_r14, dc15_r15, dc15_r16, dc15_r17, dc15_r18, dc15_r19, dc15_r20, dc15_r21, dc15_r22, dc15_r23, dc15_r24, dc15_r25, dc15_r26, dc15_r27, dc15_r28, dc15_r29, dc15_r30, dc15_r31, dc15_r32, dc15_r33, dc15_r34, dc15_r35, dc15_r36, dc15_r37, dc15_r38, dc15_r39, dc15_r40, dc15_r41, dc15_r42, dc15_r43, dc15_r44, dc15_r45, dc15_r46, dc15_r47, dc15_r48, dc15_r49, dc15_r50, dc15_r51, dc15_r52, dc15_r10, dc15_r53, dc15_r54, dc15_r55, dc15_r56, dc15_r57, dc15, DL.dI, DL.dB, DL.dS]
                refine has_spec _ _ (by decide) ?_
                by_cases hc : whatsL.contains x = true
                · by_cases h64 : out.length + 1 < 64
                  · have f64 : decide (((rulesD out).length : Int) + 1 < 64) = true := decide_eq_true (by omega)
                    have q3 : decide ((out ++ [(⟨rw1, rmod, rn, rwho⟩ : Rule)]).length < 64) = true := decide_eq_true (by simp; omega)
                    have hs : refStep ⟨out, ⟨rw1, rmod, rn, rwho⟩, .more⟩ x = (⟨out ++ [⟨rw1, rmod, rn, rwho⟩], ⟨str x, str [], 0, []⟩, .inn⟩, true) := by simp only [refStep, PS.pre, PS.again, reduceCtorEq, decide_false, decide_true, Bool.false_and, Bool.true_and, Bool.and_false, Bool.and_true, Bool.false_or, Bool.true_or, Bool.or_true, Bool.or_false, Bool.false_eq_true, if_false, if_true, q1b, q2', hc, q3] <;> rfl
                    simp -dsimp -implicitDefEqProofs (maxSteps := 1000000) (disch := first | omega | (simp only [List.length_append, List.length_cons, List.length_nil]; omega) | (intros; simp only [ne_eq, reduceCtorEq, not_false_eq_true] <;> fail)) only [DL.R, Nat.reduceEqDiff, ↓reduceIte, reduceCtorEq, Int.reduceToNat, Int.reduceLE, Int.reduceLT, Nat.reduceLeDiff, Nat.reduceAdd, Nat.reduceMul, Int.reduceBNe, Int.reduceBEq, Int.cast_ofNat_Int, decide_true, decide_false, ne_eq, eq_self, implies_true, dc15_r0, dc15_r1, dc15_r2, dc15_r3, dc15_r4, dc15_r5, dc15_r6, dc15_r7, dc15_r8, dc15_r9, dc15_r11, dc15_r12, dc15_r13, dc15_r14, dc15_r15, dc15_r16, dc15_r17, dc15_r18, dc15_r19, dc15_r20, dc15_r21, dc15_r22, dc15_r23, dc15_r24, dc15_r25, dc15_r26, dc15_r27, dc15_r28, dc15_r29, dc15_r30, dc15_r31, dc15_r32, dc15_r33, dc15_r34, dc15_r35, dc15_r36, dc15_r37, dc15_r38, dc15_r39, dc15_r40, dc15_r41, dc15_r42, dc15_r43, dc15_r44, dc15_r45, dc15_r46, dc15_r47, dc15_r48, dc15_r49, dc15_r50, dc15_r51, dc15_r52, dc15_r10, dc15_r53, dc15_r54, dc15_r55, dc15_r56, dc15_r57, dc15, DL.dI, DL.dB, DL.dS, g0, g4', g6, g7, g8, g9, ht, f1, htk, tokD, stU, stE, hc, hil, List.length_append, Int.natCast_add, Int.cast_ofNat_Int, f64, DL.wrap_id]
                    refine ⟨by omega, ?_⟩
                    simp -dsimp -implicitDefEqProofs (maxSteps := 1000000) (disch := first | omega | (simp only [List.length_append, List.length_cons, List.length_nil]; omega) | (intros; simp only [ne_eq, reduceCtorEq, not_false_eq_true] <;> fail)) only [DL.R, Nat.reduceEqDiff, ↓reduceIte, reduceCtorEq, Int.reduceToNat, Int.reduceLE, Int.reduceLT, Nat.reduceLeDiff, Nat.reduceAdd, Nat.reduceMul, Int.reduceBNe, Int.reduceBEq, Int.cast_ofNat_Int, decide_true, decide_false, ne_eq, eq_self, implies_true, dc15_r0, dc15_r1, dc15_r2, dc15_r3, dc15_r4, dc15_r5, dc15_r6, dc15_r7, dc15_r8, dc15_r9, dc15_r11, dc15_r12, dc15_r13, dc15_r14, dc15_r15, dc15_r16, dc15_r17, dc15_r18, dc15_r19, dc15_r20, dc15_r21, dc15_r22, dc15_r23, dc15_r24, dc15_r25, dc15_r26, dc15_r27, dc15_r28, dc15_r29, dc15_r30, dc15_r31, dc15_r32, dc15_r33, dc15_r34, dc15_r35, dc15_r36, dc15_r37, dc15_r38, dc15_r39, dc15_r40, dc15_r41, dc15_r42, dc15_r43, dc15_r44, dc15_r45, dc15_r46, dc15_r47, dc15_r48, dc15_r49, dc15_r50, dc15_r51, dc15_r52, dc15_r10, dc15_r53, dc15_r54, dc15_r55, dc15_r56, dc15_r57, dc15, DL.dI, DL.dB, DL.dS, g0, g4', g6, g7, g8, g9, ht, f1, htk, tokD, stU, stE, hc, RI, RIh, DL.wrap_id]
                    exact ⟨c1, rfl, ⟨out ++ [⟨rw1, rmod, rn, rwho⟩], ⟨str x, str [], 0, []⟩, .inn⟩, by have := good (by rw [hs]); rw [hs] at this; exact this, by simp; omega, by simp, by rw [hof1]; simp [Int.add_assoc], rfl, .inr ⟨by simp, ver + 1, 0, true, Gs ++ [.row false v 3 1 (ints rwho)], rfl, by rw [rulesD_snoc]; simp [ruleD, ruleL]; rfl⟩⟩
                  · have f64 : decide (((rulesD out).length : Int) + 1 < 64) = false := decide_eq_false (by omega)
                    have q3 : decide ((out ++ [(⟨rw1, rmod, rn, rwho⟩ : Rule)]).length < 64) = false := decide_eq_false (by simp; omega)
                    have hs : (refStep ⟨out, ⟨rw1, rmod, rn, rwho⟩, .more⟩ x).2 = false := by simp only [refStep, PS.pre, PS.again, reduceCtorEq, decide_false, decide_true, Bool.false_and, Bool.true_and, Bool.and_false, Bool.and_true, Bool.false_or, Bool.true_or, Bool.or_true, Bool.or_false, Bool.false_eq_true, if_false, if_true, q1b, q2', hc, q3] <;> rfl
                    simp -dsimp -implicitDefEqProofs (maxSteps := 1000000) (disch := first | omega | (simp only [List.length_append, List.length_cons, List.length_nil]; omega) | (intros; simp only [ne_eq, reduceCtorEq, not_false_eq_true] <;> fail)) only [DL.R, Nat.reduceEqDiff, ↓reduceIte, reduceCtorEq, Int.reduceToNat, Int.reduceLE, Int.reduceLT, Nat.reduceLeDiff, Nat.reduceAdd, Nat.reduceMul, Int.reduceBNe, Int.reduceBEq, Int.cast_ofNat_Int, decide_true, decide_false, ne_eq, eq_self, implies_true, dc15_r0, dc15_r1, dc15_r2, dc15_r3, dc15_r4, dc15_r5, dc15_r6, dc15_r7, dc15_r8, dc15_r9, dc15_r11, dc15_r12, dc15_r13, dc15_r14, dc15_r15, dc15_r16, dc15_r17, dc15_r18, dc15_r19, dc15_r20, dc15_r21, dc15_r22, dc15_r23, dc15_r24, dc15_r25, dc15_r26, dc15_r27, dc15_r28, dc15_r29, dc15_r30, dc15_r31, dc15_r32, dc15_r33, dc15_r34, dc15_r35, dc15_r36, dc15_r37, dc15_r38, dc15_r39, dc15_r40, dc15_r41, dc15_r42, dc15_r43, dc15_r44, dc15_r45, dc15_r46, dc15_r47, dc15_r48, dc15_r49, dc15_r50, dc15_r51, dc15_r52, dc15_r10, dc15_r53, dc15_r54, dc15_r55, dc15_r56, dc15_r57, dc15, DL.dI, DL.dB, DL.dS, g0, g4', g6, g7, g8, g9, ht, f1, htk, tokD, stU, stE, hc, hil, List.length_append, Int.natCast_add, Int.cast_ofNat_Int, f64, DL.wrap_id]
                    refine ⟨by omega, ?_⟩
                    exact leave _ hs
                · have hc' : whatsL.contains x = false := by simpa using hc
                  have hs : (refStep ⟨out, ⟨rw1, rmod, rn, rwho⟩, .more⟩ x).2 = false := by simp only [refStep, PS.pre, PS.again, reduceCtorEq, decide_false, decide_true, Bool.false_and, Bool.true_and, Bool.and_false, Bool.and_true, Bool.false_or, Bool.true_or, Bool.or_true, Bool.or_false, Bool.false_eq_true, if_false, if_true, q1b, q2', hc'] <;> rfl
                  simp -dsimp -implicitDefEqProofs (maxSteps := 1000000) (disch := first | omega | (simp only [List.length_append, List.length_cons, List.length_nil]; omega) | (intros; simp only [ne_eq, reduceCtorEq, not_false_eq_true] <;> fail)) only [DL.R, Nat.reduceEqDiff, ↓reduceIte, reduceCtorEq, Int.reduceToNat, Int.reduceLE, Int.reduceLT, Nat.reduceLeDiff, Nat.reduceAdd, Nat.reduceMul, Int.reduceBNe, Int.reduceBEq, Int.cast_ofNat_Int, decide_true, decide_false, ne_eq, eq_self, implies_true, dc15_r0, dc15_r1, dc15_r2, dc15_r3, dc15_r4, dc15_r5, dc15_r6, dc15_r7, dc15_r8, dc15_r9, dc15_r11, dc15_r12, dc15_r13, dc15_r14, dc15_r15, dc15_r16, dc15_r17, dc15_r18, dc15_r19, dc15_r20, dc15_r21, dc15_r22, dc15_r23, dc15_r24, dc15_r25, dc15_r26, dc15_r27, dc15_r28, dc15_r29, dc15_r30, dc15_r31, dc15_r32, dc15_r33, dc15_r34, dc15_r35, dc15_r36, dc15_r37, dc15_r38, dc15_r39, dc15_r40, dc15_r41, dc15_r42, dc15_r43, dc15_r44, dc15_r45, dc15_r46, dc15_r47, dc15_r48, dc15_r49, dc15_r50, dc15_r51, dc15_r52, dc15_r10, dc15_r53, dc15_r54, dc15_r55, dc15_r56, dc15_r57, dc15, DL.dI, DL.dB, DL.dS, g0, g4', g6, g7, g8, g9, ht, f1, htk, tokD, stU, stE, hc', DL.wrap_id]
                  refine ⟨by omega, ?_⟩
                  exact leave _ hs
              · have q2 : decide ((rwho.length : Int) ≥ rn) = false := decide_eq_false hN
                have q2' : decide (rn ≤ (rwho.length : Int)) = false := decide_eq_false hN
                have hs : (refStep ⟨out, ⟨rw1, rmod, rn, rwho⟩, .more⟩ x).2 = false := by simp only [refStep, PS.pre, PS.again, reduceCtorEq, decide_false, decide_true, Bool.false_and, Bool.true_and, Bool.and_false, Bool.and_true, Bool.false_or, Bool.true_or, Bool.or_true, Bool.or_false, Bool.false_eq_true, if_false, if_true, q1, q1b, q2'] <;> rfl
                simp -dsimp -implicitDefEqProofs (maxSteps := 1000000) (disch := first | omega | (simp only [List.length_append, List.length_cons, List.length_nil]; omega) | (intros; simp only [ne_eq, reduceCtorEq, not_false_eq_true] <;> fail)) only [DL.R, Nat.reduceEqDiff, ↓reduceIte, reduceCtorEq, Int.reduceToNat, Int.reduceLE, Int.reduceLT, Nat.reduceLeDiff, Nat.reduceAdd, Nat.reduceMul, Int.reduceBNe, Int.reduceBEq, Int.cast_ofNat_Int, decide_true, decide_false, ne_eq, eq_self, implies_true, dc15_r0, dc15_r1, dc15_r2, dc15_r3, dc15_r4, dc15_r5, dc15_r6, dc15_r7, dc15_r8, dc15_r9, dc15_r11, dc15_r12, dc15_r13, dc15_r14, dc15_r15, dc15_r16, dc15_r17, dc15_r18, dc15_r19, dc15_r20, dc15_r21, dc15_r22, dc15_r23, dc15_r24, dc15_r25, dc15_r26, dc15_r27, dc15_r28, dc15_r29, dc15_r30, dc15_r31, dc15_r32, dc15_r33, dc15_r34, dc15_r35, dc15_r36, dc15_r37, dc15_r38, dc15_r39, dc15_r40, dc15_r41, dc15_r42, dc15_r43, dc15_r44, dc15_r45, dc15_r46, dc15_r47, dc15_r48, dc15_r49, dc15_r50, dc15_r51, dc15_r52, dc15_r10, dc15_r53, dc15_r54, dc15_r55, dc15_r56, dc15_r57, dc15, DL.dI, DL.dB, DL.dS, g0, g4', g6, g7, g8, g9, ht, f1, htk, tokD, stU, stE, q1, q2, hil, DL.wrap_id]
                exact leave _ hs
      · have f1 : decide ((k : Int) < (ts.length : Int)) = false := decide_eq_false (by omega)
        have hdr : ts.drop k = [] := List.drop_of_length_le (by omega)
        rw [hdr, refRun] at hR
        obtain ⟨out, ⟨rw1, rmod, rn, rwho⟩, st⟩ := p
        simp only at ho hw
        have g4' : s' 4 = .sl (ts.map tokD) := g4
        have hil : (ints rwho).length = rwho.length := by simp [ints]
        have hol : (rulesD out).length = out.length := rules_len out
        rcases hh with ⟨hst, hout, ver, g7, rfl⟩ | ⟨hst, ver, v, b, Gs, g7, rfl⟩
        · simp only at hst hout
          subst hst
          subst hout
          simp -dsimp -implicitDefEqProofs (maxSteps := 1000000) (disch := first | omega | (simp only [List.length_append, List.length_cons, List.length_nil]; omega) | (intros; simp only [ne_eq, reduceCtorEq, not_false_eq_true] <;> fail)) only [DL.R, Nat.reduceEqDiff, ↓reduceIte, reduceCtorEq, Int.reduceToNat, Int.reduceLE, Int.reduceLT, Nat.reduceLeDiff, Nat.reduceAdd, Nat.reduceMul, Int.reduceBNe, Int.reduceBEq, Int.cast_ofNat_Int, decide_true, decide_false, ne_eq, eq_self, implies_true, dc15_r0, dc15_r1, dc15_r2, dc15_r3, dc15_r4, dc15_r5, dc15_r6, dc15_r7, dc15_r8, dc15_r9, dc15_r11, dc15_r12, dc15_r13, dc15_r14, dc15_r15, dc15_r16, dc15_r17, dc15_r18, dc15_r19, dc15_r20, dc15_r21, dc15_r22, dc15_r23, dc15_r24, dc15_r25, dc15_r26, dc15_r27, dc15_r28, dc15_r29, dc15_r30, dc15_r31, dc15_r32, dc15_r33, dc15_r34, dc15_r35, dc15_r36, dc15_r37, dc15_r38, dc15_r39, dc15_r40, dc15_r41, dc15_r42, dc15_r43, dc15_r44, dc15_r45, dc15_r46, dc15_r47, dc15_r48, dc15_r49, dc15_r50, dc15_r51, dc15_r52, dc15_r10, dc15_r53, dc15_r54, dc15_r55, dc15_r56, dc15_r57, dc15, DL.dI, DL.dB, DL.dS, g0, g4', g6, g7, g8, g9, ht, f1, stU, stE, DL.wrap_id]
          refine fin _ _ ?_
          rw [hR]
          exact Deep.tup2 (Deep.own0 rfl) (Deep.refl _ _)
        · have other : st ≠ .more → refP l = ([], (l.length : Int)) := fun h => by
            rw [hR]; simp only [refEnd]; simp only at hst; rw [if_neg hst, if_neg (fun q => h q.1)]
          cases st with
          | what => exact absurd rfl hst
          | more =>
            by_cases hN : rn ≤ (rwho.length : Int)
            · have q2 : decide ((rwho.length : Int) ≥ rn) = true := decide_eq_true hN
              simp -dsimp -implicitDefEqProofs (maxSteps := 1000000) (disch := first | omega | (simp only [List.length_append, List.length_cons, List.length_nil]; omega) | (intros; simp only [ne_eq, reduceCtorEq, not_false_eq_true] <;> fail)) only [DL.R, Nat.reduceEqDiff, ↓reduceIte, reduceCtorEq, Int.reduceToNat, Int.reduceLE, Int.reduceLT, Nat.reduceLeDiff, Nat.reduceAdd, Nat.reduceMul, Int.reduceBNe, Int.reduceBEq, Int.cast_ofNat_Int, decide_true, decide_false, ne_eq, eq_self, implies_true, dc15_r0, dc15_r1, dc15_r2, dc15_r3, dc15_r4, dc15_r5, dc15_r6, dc15_r7, dc15_r8, dc15_r9, dc15_r11, dc15_r12, dc15_r13, dc15_r14, dc15_r15, dc15_r16, dc15_r17, dc15_r18, dc15_r19, dc15_r20, dc15_r21, dc15_r22, dc15_r23, dc15_r24, dc15_r25, dc15_r26, dc15_r27, dc15_r28, dc15_r29, dc15_r30, dc15_r31, dc15_r32, dc15_r33, dc15_r34, dc15_r35, dc15_r36, dc15_r37, dc15_r38, dc15_r39, dc15_r40, dc15_r41, dc15_r42, dc15_r43, dc15_r44, dc15_r45, dc15_r46, dc15_r47, dc15_r48, dc15_r49, dc15_r50, dc15_r51, dc15_r52, dc15_r10, dc15_r53, dc15_r54, dc15_r55, dc15_r56, dc15_r57, dc15, DL.dI, DL.dB, DL.dS, g0, g4', g6, g7, g8, g9, ht, f1, stU, stE, q2, hil, hol, DL.wrap_id]
              refine ⟨by omega, ?_⟩
              refine fin _ _ ?_
              rw [hR]
              simp only [refEnd, reduceCtorEq, if_false, true_and, hN, if_true]
              refine Deep.tup2 ?_ (Deep.refl _ _)
              rw [rulesD_snoc]
              exact Deep.own0 rfl
            · have q2 : decide ((rwho.length : Int) ≥ rn) = false := decide_eq_false hN
              simp -dsimp -implicitDefEqProofs (maxSteps := 1000000) (disch := first | omega | (simp only [List.length_append, List.length_cons, List.length_nil]; omega) | (intros; simp only [ne_eq, reduceCtorEq, not_false_eq_true] <;> fail)) only [DL.R, Nat.reduceEqDiff, ↓reduceIte, reduceCtorEq, Int.reduceToNat, Int.reduceLE, Int.reduceLT, Nat.reduceLeDiff, Nat.reduceAdd, Nat.reduceMul, Int.reduceBNe, Int.reduceBEq, Int.cast_ofNat_Int, decide_true, decide_false, ne_eq, eq_self, implies_true, dc15_r0, dc15_r1, dc15_r2, dc15_r3, dc15_r4, dc15_r5, dc15_r6, dc15_r7, dc15_r8, dc15_r9, dc15_r11, dc15_r12, dc15_r13, dc15_r14, dc15_r15, dc15_r16, dc15_r17, dc15_r18, dc15_r19, dc15_r20, dc15_r21, dc15_r22, dc15_r23, dc15_r24, dc15_r25, dc15_r26, dc15_r27, dc15_r28, dc15_r29, dc15_r30, dc15_r31, dc15_r32, dc15_r33, dc15_r34, dc15_r35, dc15_r36, dc15_r37, dc15_r38, dc15_r39, dc15_r40, dc15_r41, dc15_r42, dc15_r43, dc15_r44, dc15_r45, dc15_r46, dc15_r47, dc15_r48, dc15_r49, dc15_r50, dc15_r51, dc15_r52, dc15_r10, dc15_r53, dc15_r54, dc15_r55, dc15_r56, dc15_r57, dc15, DL.dI, DL.dB, DL.dS, g0, g4', g6, g7, g8, g9, ht, f1, stU, stE, q2, hil, DL.wrap_id]
              refine fin _ _ ?_
              rw [hR]
              simp only [refEnd, reduceCtorEq, if_false, true_and, hN]
              exact Deep.tup2 (Deep.nil _) (Deep.refl _ _)
          | _ =>
            simp -dsimp -implicitDefEqProofs (maxSteps := 1000000) (disch := first | omega | (simp only [List.length_append, List.length_cons, List.length_nil]; omega) | (intros; simp only [ne_eq, reduceCtorEq, not_false_eq_true] <;> fail)) only [DL.R, Nat.reduceEqDiff, ↓reduceIte, reduceCtorEq, Int.reduceToNat, Int.reduceLE, Int.reduceLT, Nat.reduceLeDiff, Nat.reduceAdd, Nat.reduceMul, Int.reduceBNe, Int.reduceBEq, Int.cast_ofNat_Int, decide_true, decide_false, ne_eq, eq_self, implies_true, dc15_r0, dc15_r1, dc15_r2, dc15_r3, dc15_r4, dc15_r5, dc15_r6, dc15_r7, dc15_r8, dc15_r9, dc15_r11, dc15_r12, dc15_r13, dc15_r14, dc15_r15, dc15_r16, dc15_r17, dc15_r18, dc15_r19, dc15_r20, dc15_r21, dc15_r22, dc15_r23, dc15_r24, dc15_r25, dc15_r26, dc15_r27, dc15_r28, dc15_r29, dc15_r30, dc15_r31, dc15_r32, dc15_r33, dc15_r34, dc15_r35, dc15_r36, dc15_r37, dc15_r38, dc15_r39, dc15_r40, dc15_r41, dc15_r42, dc15_r43, dc15_r44, dc15_r45, dc15_r46, dc15_r47, dc15_r48, dc15_r49, dc15_r50, dc15_r51, dc15_r52, dc15_r10, dc15_r53, dc15_r54, dc15_r55, dc15_r56, dc15_r57, dc15, DL.dI, DL.dB, DL.dS, g0, g4', g6, g7, g8, g9, ht, f1, stU, stE, DL.wrap_id]
            refine fin _ _ ?_
            rw [other (by simp)]
            exact Deep.tup2 (Deep.nil _) (Deep.refl _ _)
  · have e0 : (p0 != -1) = true := by simp [c0]
    rw [if_pos c0] at hP
    simp -dsimp -implicitDefEqProofs (maxSteps := 1000000) (disch := first | omega | (simp only [List.length_append, List.length_cons, List.length_nil]; omega) | (intros; simp only [ne_eq, reduceCtorEq, not_false_eq_true] <;> fail)) only [DL.R, Nat.reduceEqDiff, ↓reduceIte, reduceCtorEq, Int.reduceToNat, Int.reduceLE, Int.reduceLT, Nat.reduceLeDiff, Nat.reduceAdd, Nat.reduceMul, Int.reduceBNe, Int.reduceBEq, Int.cast_ofNat_Int, decide_true, decide_false, ne_eq, eq_self, implies_true, dc15_r0, dc15_r1, dc15_r2, dc15_r3, dc15_r4, dc15_r5, dc15_r6, dc15_r7, dc15_r8, dc15_r9, dc15_r11, dc15_r12, dc15_r13, dc15_r14, dc15_r15, dc15_r16, dc15_r17, dc15_r18, dc15_r19, dc15_r20, dc15_r21, dc15_r22, dc15_r23, dc15_r24, dc15_r25, dc15_r26, dc15_r27, dc15_r28, dc15_r29, dc15_r30, dc15_r31, dc15_r32, dc15_r33, dc15_r34, dc15_r35, dc15_r36, dc15_r37, dc15_r38, dc15_r39, dc15_r40, dc15_r41, dc15_r42, dc15_r43, dc15_r44, dc15_r45, dc15_r46, dc15_r47, dc15_r48, dc15_r49, dc15_r50, dc15_r51, dc15_r52, dc15_r10, dc15_r53, dc15_r54, dc15_r55, dc15_r56, dc15_r57, dc15, DL.dI, DL.dB, DL.dS, e0]
    have := fin [] (.tup [.lit (.slice none 0 0), dI p0]) (by rw [hP]; exact Deep.tup2 (Deep.nil _) (Deep.refl _ _))
    simpa using this
end Go.Proofs.Tryd
set_option maxRecDepth 100000
set_option linter.unusedSimpArgs false
set_option linter.unusedVariables false
namespace Go.Proofs.Tryd
open Go Go.DL Go.RowKit
variable {G : Nat → D} {H : List O} {Q : D → List O → Prop}
set_option maxHeartbeats 1000000 in
theorem cc_used (b : Nat) (w : World) (h0 : w.cell? ⟨b, 0, none⟩ = some (.pointer (some ⟨b, 0, none⟩))) :
    Calls Tryd.prog 53 #[.pointer (some ⟨b, 0, none⟩)] w fun e w' => e = .returned (.tuple #[]) ∧ w' = w := by
  obtain ⟨j, hj, _⟩ := Option.map_eq_some_iff.1 Tryd.Builder_Extra_169.sizeBuilder
  have u77 : Tryd.prog.underlying 77 = some (.pointer 80) := by kernel_rfl
  go_enter Tryd.func53, Tryd.ntmps53
  go_wp2
  rw [Lib.run_neq_ptr_same w _ u77 hj]
  go_wp2
  go_end0
  exact ⟨rfl, rfl⟩
set_option maxHeartbeats 1000000 in
theorem cc_fresh (b : Nat) (w : World) (h0 : w.cell? ⟨b, 0, none⟩ = some (.pointer none)) (hsh : w.shape? b = some (80, 2)) (hfz : w.frozen? ⟨b, 0, none⟩ = false) :
    Calls Tryd.prog 53 #[.pointer (some ⟨b, 0, none⟩)] w fun e w' => e = .returned (.tuple #[]) ∧ w' = w.setCell ⟨b, 0, none⟩ (.pointer (some ⟨b, 0, none⟩)) := by
  obtain ⟨j, hj, hjs⟩ := Option.map_eq_some_iff.1 Tryd.Builder_Extra_169.sizeBuilder
  have u77 : Tryd.prog.underlying 77 = some (.pointer 80) := by kernel_rfl
  have u101 : Tryd.prog.underlying 101 = some .unsafePointer := by kernel_rfl
  go_enter Tryd.func53, Tryd.ntmps53
  go_wp2
  rw [Lib.run_to_unsafe w ⟨b, 0, none⟩ u77 u101 hj (by rw [hjs]; decide) hsh (Nat.zero_lt_succ 1)]
  simp only [Result.andThen]
  rw [Oper.upon_value]
  go_wp2
  rw [run_callFunc_extern Tryd.func60 (by kernel_rfl) (by kernel_rfl) (by kernel_rfl) (e := Extern.AbiNoEscape.same) (by kernel_rfl)]
  rw [Lib.run_noEscape]
  simp only [Result.andThen]
  rw [Oper.upon_value]
  go_wp2
  rw [Lib.run_from_unsafe w ⟨b, 0, none⟩ u101 u77 hj hsh Tryd.Builder_Extra_169.liesBuilder]
  simp only [Result.andThen]
  rw [Oper.upon_value]
  go_wp2
  go_end0
  exact ⟨rfl, rfl⟩
set_option maxHeartbeats 1000000 in
theorem str_row (b g cap : Nat) (l : List UInt8) (cur : Array Value) (p : Value) (w : World) (hbk : w.heap[b]? = some (.cells #[p, .slice (some ⟨g, 0, none⟩) l.length cap] 80 (0, 0))) (hg : w.heap[g]? = some (.cells cur 5 (0, 0))) (h0 : l ≠ []) (hlc : l.length ≤ cap) (hcm : cap ≤ maxLen) (hcs : l.length ≤ cur.size)
    (hcells : ∀ j x, l[j]? = some x → w.cell? ⟨g, j, none⟩ = some (.int .u8 x.toNat)) :
    Calls Tryd.prog 40 #[.pointer (some ⟨b, 0, none⟩)] w fun e w' => e = .returned (.string ⟨l.toArray⟩) ∧ w' = w.drew.freeze ⟨g, 0, none⟩ l.length := by
  have hl0 : l.length ≠ 0 := by simpa using h0
  have c1 : w.drew.cell? ⟨b, 1, none⟩ = some (.slice (some ⟨g, 0, none⟩) l.length cap) := by
    have : w.drew.heap[b]? = some (.cells #[p, .slice (some ⟨g, 0, none⟩) l.length cap] 80 (0, 0)) := hbk
    rw [Lib.cell_of_heap this]; rfl
  have hSD : (Builtin.unsafeSliceData_ #[78] 93 #[.slice (some ⟨g, 0, none⟩) l.length cap]).run Tryd.prog w.drew = .ok (.pointer (some ⟨g, 0, none⟩)) w.drew :=
    Lib.run_unsafeSliceData_row _ _ _ _ _ _ (by omega)
  have hUS : (Builtin.unsafeString_ #[93, 3] 9 #[.pointer (some ⟨g, 0, none⟩), .int .i64 l.length]).run Tryd.prog w.drew = .ok (.string ⟨l.toArray⟩) (w.drew.freeze ⟨g, 0, none⟩ l.length) := by
    refine Lib.run_unsafeString_row w.drew 93 3 9 5 Tryd.lays169.t127 Tryd.Builder_Extra_169.cellsByte g cur.size (by have hg' : w.drew.heap[g]? = some (.cells cur 5 (0, 0)) := hg; simp [World.shape?, hg']) l h0 (by omega) (by unfold maxLen at hcm; omega) ?_
    intro j x hx
    have := hcells j x hx
    rw [Addr.add_lit, Nat.zero_add]
    exact this
  have L := Tryd.lays169
  have X := Tryd.Builder_Extra_169
  have mixed := L.mixed
  have t72 := L.t72; have a72 := L.a72; have z72 := L.z72; have v72 := L.v72; have u72 := run_underlying L.t72
  have t70 := L.t70; have a70 := L.a70; have z70 := L.z70; have v70 := L.v70; have u70 := run_underlying L.t70
  have t37 := L.t37; have a37 := L.a37; have z37 := L.z37; have v37 := L.v37; have u37 := run_underlying L.t37
  have t127 := L.t127; have a127 := L.a127; have z127 := L.z127; have v127 := L.v127; have u127 := run_underlying L.t127
  have t3 := L.t3; have a3 := L.a3; have z3 := L.z3; have v3 := L.v3; have u3 := run_underlying L.t3
  have t9 := L.t9; have a9 := L.a9; have z9 := L.z9; have v9 := L.v9; have u9 := run_underlying L.t9
  have t5 := X.t5; have a5 := X.a5; have z5 := X.z5; have v5 := X.v5; have u5 := run_underlying X.t5
  go_enter Tryd.func40, Tryd.ntmps40
  go_wp2
  go_region_o
  all_goals (go_wp2; go_ret; exact ⟨rfl, rfl⟩)
set_option maxHeartbeats 1000000 in
theorem str_nil (b : Nat) (p : Value) (w : World) (hbk : w.heap[b]? = some (.cells #[p, .slice none 0 0] 80 (0, 0))) :
    Calls Tryd.prog 40 #[.pointer (some ⟨b, 0, none⟩)] w fun e w' => e = .returned (.string ⟨#[]⟩) ∧ w' = w.drew := by
  have L := Tryd.lays169
  have X := Tryd.Builder_Extra_169
  have hUS : ∀ (W : World) (q : Option Addr), (Builtin.unsafeString_ #[93, 3] 9 #[.pointer q, .int .i64 0]).run Tryd.prog W = .ok (.string .empty) W := fun W q => Lib.run_unsafeString_none W _ _ _ q
  have c1 : w.drew.cell? ⟨b, 1, none⟩ = some (.slice none 0 0) := by
    have : w.drew.heap[b]? = some (.cells #[p, .slice none 0 0] 80 (0, 0)) := hbk
    rw [Lib.cell_of_heap this]; rfl
  have hSD : (Builtin.unsafeSliceData_ #[78] 93 #[.slice none 0 0]).run Tryd.prog w.drew = .ok (.pointer none) w.drew := rfl
  have mixed := L.mixed
  have t72 := L.t72; have a72 := L.a72; have z72 := L.z72; have v72 := L.v72; have u72 := run_underlying L.t72
  have t70 := L.t70; have a70 := L.a70; have z70 := L.z70; have v70 := L.v70; have u70 := run_underlying L.t70
  have t37 := L.t37; have a37 := L.a37; have z37 := L.z37; have v37 := L.v37; have u37 := run_underlying L.t37
  have t127 := L.t127; have a127 := L.a127; have z127 := L.z127; have v127 := L.v127; have u127 := run_underlying L.t127
  have t3 := L.t3; have a3 := L.a3; have z3 := L.z3; have v3 := L.v3; have u3 := run_underlying L.t3
  have t9 := L.t9; have a9 := L.a9; have z9 := L.z9; have v9 := L.v9; have u9 := run_underlying L.t9
  have t5 := X.t5; have a5 := X.a5; have z5 := X.z5; have v5 := X.v5; have u5 := run_underlying X.t5
  go_enter Tryd.func40, Tryd.ntmps40
  go_wp2
  go_region_o
  all_goals (go_wp2; go_ret; exact ⟨rfl, rfl⟩)
end Go.Proofs.Tryd
set_option maxRecDepth 100000
set_option linter.unusedSimpArgs false
set_option linter.unusedVariables false
namespace Go.Proofs.Tryd
open Go Go.DL
variable {G : Nat → D} {H : List O} {Q : D → List O → Prop}
theorem box_at {F : Frm} {c : Conc} {w : World} (h : RelH F c H w) {id : Nat} {e : TypeId} {ys : List D} (hH : H[id]? = some (.box e ys)) {v : Value} (hv : RdV c H (.ptr id 0) v) :
    ∃ b cs, v = .pointer (some ⟨b, 0, none⟩) ∧ c.κ id = .pointer (some ⟨b, 0, none⟩) ∧ w.heap[b]? = some (.cells cs e (0, 0)) ∧ cs.size = ys.length ∧ (∀ i (hi : i < ys.length), RdV c H (ys[i]'hi) (cs.getD i undef)) ∧ (∀ z ∈ ys, z.one = true) ∧ ∀ a v, c.Φ a = some v → a.block ≠ b := by
  obtain ⟨b, cs, o1, o2, o3, o4, o5, o6⟩ := h.objs id _ hH
  cases hv with
  | ptr _ _ b' ob hob hk hver hκ =>
    rw [hκ] at o1
    have hbb : b' = b := by injection o1 with q; injection q with q; injection q
    subst hbb
    exact ⟨b', cs, rfl, hκ, o2, o3, o4, o5, o6⟩
theorem setCell_box {F : Frm} {c : Conc} {w : World} (h : RelH F c H w) {id : Nat} {e : TypeId} {a y : D} (hH : H[id]? = some (.box e [a, y])) {b : Nat} {cs : Array Value} (hκ : c.κ id = .pointer (some ⟨b, 0, none⟩)) (o2 : w.heap[b]? = some (.cells cs e (0, 0))) :
    RelH F c (H.set id (.box e [.ptr id 0, y])) (w.setCell ⟨b, 0, none⟩ (.pointer (some ⟨b, 0, none⟩))) := by
  have hid : id < H.length := (List.getElem?_eq_some_iff.1 hH).1
  obtain ⟨b', cs', p1, p2, o3, o4, o5, o6⟩ := h.objs id _ hH
  rw [hκ] at p1
  have hbb : b' = b := by injection p1 with q; injection q with q; injection q with q; exact q.symm
  subst hbb
  rw [o2] at p2
  cases p2
  have hE : Ext c H c (H.set id (.box e [.ptr id 0, y])) := Ext.set hH rfl rfl
  have hb : blk (c.κ id) = some b' := by rw [hκ]; rfl
  have hnew : (w.setCell ⟨b', 0, none⟩ (.pointer (some ⟨b', 0, none⟩))).heap[b']? = some (.cells (cs.setIfInBounds 0 (.pointer (some ⟨b', 0, none⟩))) e (0, 0)) := by
    simp [World.setCell, Array.getElem?_modify, o2]
  refine h.step (some b') id ⟨rfl, rfl, rfl, by simp [World.setCell], fun k _ hk => RowKit.Below.heap_setCell _ _ _ _ (fun e => hk (by simp [e]))⟩ (fun b'' hb'' => ⟨hid, by rw [← hb'']; exact hb⟩) hE (fun _ _ _ => rfl) (fun j hj => List.getElem?_set_ne (by omega)) (fun a u ha => .inl ha)
    (fun a u ha hrow => absurd (Option.some.inj hrow).symm (o6 a u ha)) ?_ (fun b'' _ hb'' => .inl ⟨hid, hb''⟩) ?_
  · intro p hp
    rw [List.getElem?_set_self hid] at hp
    cases hp
    have hsz : cs.size = 2 := o3
    refine ⟨b', _, hκ, hnew, by simp [hsz], ?_, ?_, o6⟩
    · intro i hi
      match i, hi with
      | 0, _ =>
        have : (cs.setIfInBounds 0 (.pointer (some ⟨b', 0, none⟩))).getD 0 undef = .pointer (some ⟨b', 0, none⟩) := by
          simp [Array.getD, hsz]
        rw [this]
        exact .ptr id 0 b' _ (List.getElem?_set_self hid) rfl rfl hκ
      | 1, _ =>
        have h1 : 1 < cs.size := by omega
        have : (cs.setIfInBounds 0 (.pointer (some ⟨b', 0, none⟩))).getD 1 undef = cs.getD 1 undef := by
          simp [Array.getD, h1]
        rw [this]
        exact (o4 1 (by simp)).ext hE
    · intro z hz
      simp only [List.mem_cons, List.not_mem_nil, or_false] at hz
      rcases hz with rfl | rfl
      · rfl
      · exact o5 z (by simp)
  · intro ver es hm; rw [hH] at hm; cases hm
theorem copyCheck_spec {id : Nat} {a y : D} (hH : H[id]? = some (.box 80 [a, y])) (ha : a = .lit (.pointer none) ∨ a = .ptr id 0) (hQ : Q (.tup []) (H.set id (.box 80 [.ptr id 0, y]))) : CallA Tryd.prog G 53 [.ptr id 0] H Q := by
  refine ⟨⟨_, Tryd.func53, by kernel_rfl, by kernel_rfl⟩, fun F c w vs h1 h2 h3 h4 => ?_⟩
  have hv := h4 0 (by simp)
  obtain ⟨b, cs, e1, e2, e3, e4, e5, e6, e7⟩ := box_at h1 hH hv
  have hvs : vs = #[.pointer (some ⟨b, 0, none⟩)] := by
    apply Array.ext
    · simpa using h3
    · intro i hi hi'
      have : i = 0 := by simpa using hi'
      subst this
      have : vs.getD 0 undef = vs[0] := by simp [Array.getD, hi]
      rw [← this, e1]; simp
  subst hvs
  have hsz : cs.size = 2 := e4
  have hc0 : w.cell? ⟨b, 0, none⟩ = some (cs.getD 0 undef) := by
    simp [World.cell?, e3, Array.getD, hsz]
  have ret : ∀ w', RelH F c (H.set id (.box 80 [.ptr id 0, y])) w' → ∃ v d c' H', (Ending.returned (.tuple #[]) : Ending) = .returned v ∧ RelH F c' H' w' ∧ Ext c H c' H' ∧ RdV c' H' d v ∧ Q d H' := fun w' hw' =>
    ⟨_, .tup [], c, _, rfl, hw', Ext.set hH rfl rfl, .tup [] #[] rfl (fun i hi => by simp at hi), hQ⟩
  have r0 := e5 0 (by simp)
  simp only [List.getElem_cons_zero] at r0
  rcases ha with rfl | rfl
  · generalize hg : cs.getD 0 undef = u at r0 hc0
    cases r0
    refine (cc_fresh b w hc0 (by simp [World.shape?, e3, hsz]) (by simp [World.frozen?, e3])).mono ?_
    rintro e w' ⟨rfl, rfl⟩
    exact ret _ (setCell_box h1 hH e2 e3)
  · generalize hg : cs.getD 0 undef = u at r0 hc0
    cases r0 with
    | ptr _ _ b' ob hob hk hver hκ =>
      rw [e2] at hκ
      have hbb : b = b' := by injection hκ with q; injection q with q; injection q
      subst hbb
      refine (cc_used b w hc0).mono ?_
      rintro e w' ⟨rfl, rfl⟩
      refine ret _ ?_
      rw [set_self _ _ _ hH]; exact h1
theorem string_nil_spec {id : Nat} {a : D} (hH : H[id]? = some (.box 80 [a, .lit (.slice none 0 0)])) (hQ : Q (dS (str [])) H) : CallA Tryd.prog G 40 [.ptr id 0] H Q := by
  refine ⟨⟨_, Tryd.func40, by kernel_rfl, by kernel_rfl⟩, fun F c w vs h1 h2 h3 h4 => ?_⟩
  have hv := h4 0 (by simp)
  obtain ⟨b, cs, e1, e2, e3, e4, e5, e6, e7⟩ := box_at h1 hH hv
  have hvs : vs = #[.pointer (some ⟨b, 0, none⟩)] := by
    apply Array.ext
    · simpa using h3
    · intro i hi hi'
      have : i = 0 := by simpa using hi'
      subst this
      have : vs.getD 0 undef = vs[0] := by simp [Array.getD, hi]
      rw [← this, e1]; simp
  subst hvs
  have hsz : cs.size = 2 := e4
  have r1 := e5 1 (by simp)
  simp only [List.getElem_cons_succ, List.getElem_cons_zero] at r1
  have hcs : cs = #[cs.getD 0 undef, cs.getD 1 undef] := by
    apply Array.ext
    · simpa using hsz
    · intro i hi hi'
      have hi2 : i < 2 := by simpa using hi'
      match i, hi2 with
      | 0, _ => simp [Array.getD, hsz]
      | 1, _ => simp [Array.getD, hsz]
  generalize hg1 : cs.getD 1 undef = u1 at r1 hcs
  cases r1
  rw [hcs] at e3
  refine (str_nil b _ w e3).mono ?_
  rintro e w' ⟨rfl, rfl⟩
  exact ⟨_, _, c, H, rfl, h1.drew, Ext.refl _ _, .lit _, hQ⟩
def bytesD (l : List UInt8) : List D := l.map fun u => .lit (.int .u8 u.toNat)
theorem flat_bytes : ∀ l : List UInt8, flat (bytesD l) = bytesD l
  | [] => rfl
  | a :: l => by
    have ih := flat_bytes l
    simp only [bytesD, flat] at ih ⊢
    simp only [List.map_cons, List.flatMap_cons, D.leaves, ih]; rfl
theorem cell_freeze (w : World) (g n : Nat) (a : Addr) : (w.freeze ⟨g, 0, none⟩ n).cell? a = w.cell? a := by
  unfold World.freeze
  split
  · rfl
  · simp only [World.cell?, Array.getElem?_modify]
    by_cases hg : g = a.block
    · subst hg
      simp only [if_true]
      cases w.heap[a.block]? with
      | none => rfl
      | some o => cases o <;> rfl
    · rw [if_neg hg]
theorem string_row_spec {id rid ver : Nat} {a : D} {x : Bool} (l : List UInt8) (hl0 : l ≠ []) (hH : H[id]? = some (.box 80 [a, .row rid ver])) (hR : H[rid]? = some (.row x ver 5 1 (bytesD l))) (hQ : Q (dS (str l)) (H.set rid (.row true (ver + 1) 5 1 []))) :
    CallA Tryd.prog G 40 [.ptr id 0] H Q := by
  refine ⟨⟨_, Tryd.func40, by kernel_rfl, by kernel_rfl⟩, fun F c w vs h1 h2 h3 h4 => ?_⟩
  have hv := h4 0 (by simp)
  obtain ⟨b, cs, e1, e2, e3, e4, e5, e6, e7⟩ := box_at h1 hH hv
  have hvs : vs = #[.pointer (some ⟨b, 0, none⟩)] := by
    apply Array.ext
    · simpa using h3
    · intro i hi hi'
      have : i = 0 := by simpa using hi'
      subst this
      have : vs.getD 0 undef = vs[0] := by simp [Array.getD, hi]
      rw [← this, e1]; simp
  subst hvs
  have hsz : cs.size = 2 := e4
  have r1 := e5 1 (by simp)
  simp only [List.getElem_cons_succ, List.getElem_cons_zero] at r1
  have hcs : cs = #[cs.getD 0 undef, cs.getD 1 undef] := by
    apply Array.ext
    · simpa using hsz
    · intro i hi hi'
      have hi2 : i < 2 := by simpa using hi'
      match i, hi2 with
      | 0, _ => simp [Array.getD, hsz]
      | 1, _ => simp [Array.getD, hsz]
  generalize hg1 : cs.getD 1 undef = u1 at r1 hcs
  have hrid : rid < H.length := (List.getElem?_eq_some_iff.1 hR).1
  cases r1 with
  | row _ _ sz ob ao n cap ho hk hver hκ =>
    rw [hR] at ho
    cases ho
    have hκ := hκ rfl
    have hok := h1.objs rid _ hR
    obtain ⟨q0, q1, cells, hown, q2, q3⟩ := hok
    have hbl : (bytesD l).length = l.length := by simp [bytesD]
    have hl1 : l.length ≠ 0 := by simpa using hl0
    rw [hbl] at hown
    rcases hown.2 with ⟨_, hz⟩ | ⟨g, cap', cur, hv', _, hh, hle, hmax, hcsz, htake⟩
    · exact absurd hz hl1
    · rw [← hκ] at hv'
      injection hv' with z1 z2 z3
      subst z1 z2 z3
      rw [hcs] at e3
      have hfl : flat (bytesD l) = bytesD l := flat_bytes l
      have hcellv : ∀ j u, l[j]? = some u → w.cell? ⟨g, j, none⟩ = some (.int .u8 u.toNat) := by
        intro j u hj
        have hjl : j < l.length := (List.getElem?_eq_some_iff.1 hj).1
        have hju : l[j] = u := (List.getElem?_eq_some_iff.1 hj).2
        have hjf : j < (flat (bytesD l)).length := by rw [hfl, hbl]; exact hjl
        have := q2 j hjf
        have e8 : (flat (bytesD l))[j]'hjf = .lit (.int .u8 u.toNat) := by
          have : (flat (bytesD l))[j]? = some (.lit (.int .u8 u.toNat)) := by rw [hfl]; simp [bytesD, hj]
          rw [List.getElem?_eq_getElem hjf] at this
          exact Option.some.inj this
        rw [e8] at this
        have hjc : j < cells.length := by rw [hown.1]; omega
        have hcell := own_cell hown (g := g) (by rw [← hκ]; rfl) j hjc
        rw [hcell, List.getElem?_eq_getElem hjc]
        rw [List.getD_eq_getElem?_getD, List.getElem?_eq_getElem hjc, Option.getD_some] at this
        generalize cells[j] = cv at this
        cases this
        rfl
      refine (str_row b g _ l cur _ w e3 hh hl0 hle hmax (by omega) hcellv).mono ?_
      rintro e w' ⟨rfl, rfl⟩
      have hg : blk (c.κ rid) = some g := by rw [← hκ]; rfl
      have hE : Ext c H (updκ c rid (.slice none 0 0)) (H.set rid (.row true (ver + 1) 5 1 [])) := by
        refine ⟨fun _ _ q => q, fun i o hi => ?_⟩
        by_cases hii : i = rid
        · subst hii
          rw [hR] at hi; cases hi
          exact ⟨_, List.getElem?_set_self hrid, rfl, by simp [O.ver], fun q => by simp [O.ver] at q⟩
        · exact ⟨o, by rw [List.getElem?_set_ne (by omega)]; exact hi, rfl, Nat.le_refl _, fun _ => by simp [updκ, hii]⟩
      refine ⟨_, dS (str l), updκ c rid (.slice none 0 0), _, rfl, ?_, hE, .lit _, hQ⟩
      refine h1.drew.step (some g) rid ?_ (fun b'' hb'' => ⟨hrid, by rw [← hb'']; exact hg⟩) hE (fun i _ hi => by simp [updκ, hi]) (fun j hj => List.getElem?_set_ne (by omega)) (fun a u ha => .inl ha)
        (fun a u ha _ => by rw [cell_freeze]; exact h1.good a u ha) ?_ (fun b'' _ hb'' => by simp [updκ, blk] at hb'') ?_
      · refine ⟨?_, ?_, ?_, ?_, ?_⟩
        · unfold World.freeze; split <;> rfl
        · unfold World.freeze; split <;> rfl
        · unfold World.freeze; split <;> rfl
        · unfold World.freeze; split <;> simp
        · intro k hk hne
          unfold World.freeze
          split
          · rfl
          · simp only [Array.getElem?_modify]
            rw [if_neg (fun e => hne (by simp [e]))]
      · intro p hp
        rw [List.getElem?_set_self hrid] at hp
        cases hp
        exact ⟨by omega, fun y hy => by simp at hy, [], by simp only [updκ, if_true]; exact World.ownsRow_nil _ 0 5 1, fun k hk => by simp [flat] at hk, fun g' hg' => by simp [updκ, blk] at hg'⟩
      · intro ver' es hm; rw [hR] at hm; cases hm
end Go.Proofs.Tryd
set_option maxRecDepth 100000
set_option linter.unusedSimpArgs false
set_option linter.unusedVariables false
namespace Go.Proofs.Tryd
open Go Go.DL
variable {G : Nat → D} {H : List O} {Q : D → List O → Prop}
def BldAt (H K : List O) (t : List UInt8) : Prop :=
  (t = [] ∧ ∃ Gs, K = H ++ (.box 80 [.lit (.pointer none), .lit (.slice none 0 0)] :: Gs)) ∨
  (t ≠ [] ∧ ∃ Gs j ver, Gs[j]? = some (.row true ver 5 1 (bytesD t)) ∧ K = H ++ (.box 80 [.ptr H.length 0, .row (H.length + (j + 1)) ver] :: Gs))
theorem BldAt.pre {K : List O} {t : List UInt8} (h : BldAt H K t) : ∃ Gs, K = H ++ Gs := by
  rcases h with ⟨_, Gs, rfl⟩ | ⟨_, Gs, j, ver, _, rfl⟩
  · exact ⟨_, rfl⟩
  · exact ⟨_, rfl⟩
theorem BldAt.push {K : List O} {t : List UInt8} (h : BldAt H K t) (l : List O) : BldAt H (K ++ l) t := by
  rcases h with ⟨h0, Gs, rfl⟩ | ⟨h0, Gs, j, ver, hj, rfl⟩
  · exact .inl ⟨h0, Gs ++ l, by simp⟩
  · exact .inr ⟨h0, Gs ++ l, j, ver, by rw [List.getElem?_append_left (List.getElem?_eq_some_iff.1 hj).1]; exact hj, by simp⟩
theorem bytesD_app (a b : List UInt8) : bytesD a ++ bytesD b = bytesD (a ++ b) := by simp [bytesD]
theorem ws_spec {K : List O} {t s : List UInt8} (hB : BldAt H K t) (hne : t ++ s ≠ []) (hlen : t.length + s.length ≤ 140737488355328)
    (hQ : ∀ K', BldAt H K' (t ++ s) → K.length ≤ K'.length → (∀ i e ys, i ≠ H.length → K[i]? = some (.box e ys) → K'[i]? = some (.box e ys)) → Q (.tup [dI s.length, .lit .nilIface]) K') :
    CallA Tryd.prog G 38 [.ptr H.length 0, dS (str s)] K Q := by
  refine s38 (Nat.le_of_ble_eq_true rfl) ?_
  have hbs : (str s).size = s.length := str_size s
  have hdl : (str s).data.toList = s := str_list s
  have hbd : ∀ l : List UInt8, (l.map fun u => D.lit (.int .u8 u.toNat)) = bytesD l := fun _ => rfl
  rcases hB with ⟨rfl, Gs, rfl⟩ | ⟨h0, Gs, j, ver, hj, rfl⟩
  · simp -dsimp -implicitDefEqProofs (maxSteps := 1000000) (disch := first | omega | (simp only [List.length_append, List.length_cons, List.length_nil]; omega) | (intros; simp only [ne_eq, reduceCtorEq, not_false_eq_true] <;> fail)) only [DL.R, Nat.reduceEqDiff, ↓reduceIte, reduceCtorEq, Int.reduceToNat, Int.reduceLE, Int.reduceLT, Nat.reduceLeDiff, Nat.reduceAdd, Nat.reduceMul, Int.reduceBNe, Int.reduceBEq, Int.cast_ofNat_Int, decide_true, decide_false, ne_eq, eq_self, implies_true, dc38_r0, dc38_r1, dc38_r2, dc38_r3, dc38, DL.dI, DL.dB, DL.dS]
    refine copyCheck_spec (id := H.length) (a := .lit (.pointer none)) (y := .lit (.slice none 0 0)) (by rw [get_own0]; rfl) (.inl rfl) ?_
    simp -dsimp -implicitDefEqProofs (maxSteps := 1000000) (disch := first | omega | (simp only [List.length_append, List.length_cons, List.length_nil]; omega) | (intros; simp only [ne_eq, reduceCtorEq, not_false_eq_true] <;> fail)) only [DL.R, Nat.reduceEqDiff, ↓reduceIte, reduceCtorEq, Int.reduceToNat, Int.reduceLE, Int.reduceLT, Nat.reduceLeDiff, Nat.reduceAdd, Nat.reduceMul, Int.reduceBNe, Int.reduceBEq, Int.cast_ofNat_Int, decide_true, decide_false, ne_eq, eq_self, implies_true, dc38_r0, dc38_r1, dc38_r2, dc38_r3, dc38, DL.dI, DL.dB, DL.dS]
    refine ⟨by simpa using hlen, ?_⟩
    refine hQ _ (.inr ⟨hne, Gs ++ [.row true 1 5 1 (bytesD s)], Gs.length, 1, by simp, ?_⟩) (by simp) ?_
    · rw [hdl]; rfl
    · intro i e ys hi hk
      by_cases hil : i < H.length
      · rw [List.getElem?_append_left hil] at hk ⊢; exact hk
      · obtain ⟨m, rfl⟩ : ∃ m, i = H.length + (m + 1) := ⟨i - H.length - 1, by omega⟩
        rw [get_own, List.getElem?_cons_succ] at hk ⊢
        rw [List.getElem?_append_left (List.getElem?_eq_some_iff.1 hk).1]; exact hk
  · have hjl : j < Gs.length := (List.getElem?_eq_some_iff.1 hj).1
    have hbl : (bytesD t).length = t.length := by simp [bytesD]
    simp -dsimp -implicitDefEqProofs (maxSteps := 1000000) (disch := first | omega | (simp only [List.length_append, List.length_cons, List.length_nil]; omega) | (intros; simp only [ne_eq, reduceCtorEq, not_false_eq_true] <;> fail)) only [DL.R, Nat.reduceEqDiff, ↓reduceIte, reduceCtorEq, Int.reduceToNat, Int.reduceLE, Int.reduceLT, Nat.reduceLeDiff, Nat.reduceAdd, Nat.reduceMul, Int.reduceBNe, Int.reduceBEq, Int.cast_ofNat_Int, decide_true, decide_false, ne_eq, eq_self, implies_true, dc38_r0, dc38_r1, dc38_r2, dc38_r3, dc38, DL.dI, DL.dB, DL.dS]
    refine copyCheck_spec (id := H.length) (a := .ptr H.length 0) (y := .row (H.length + (j + 1)) ver) (by rw [get_own0]; rfl) (.inr rfl) ?_
    simp -dsimp -implicitDefEqProofs (maxSteps := 1000000) (disch := first | omega | (simp only [List.length_append, List.length_cons, List.length_nil]; omega) | (intros; simp only [ne_eq, reduceCtorEq, not_false_eq_true] <;> fail)) only [DL.R, Nat.reduceEqDiff, ↓reduceIte, reduceCtorEq, Int.reduceToNat, Int.reduceLE, Int.reduceLT, Nat.reduceLeDiff, Nat.reduceAdd, Nat.reduceMul, Int.reduceBNe, Int.reduceBEq, Int.cast_ofNat_Int, decide_true, decide_false, ne_eq, eq_self, implies_true, dc38_r0, dc38_r1, dc38_r2, dc38_r3, dc38, DL.dI, DL.dB, DL.dS, hj, hbl]
    refine ⟨by omega, ?_⟩
    refine hQ _ (.inr ⟨hne, Gs.set j (.row true (ver + 1) 5 1 (bytesD (t ++ s))), j, ver + 1, List.getElem?_set_self hjl, ?_⟩) (by simp) ?_
    · rw [hdl, hbd, bytesD_app]
    · intro i e ys hi hk
      by_cases hil : i < H.length
      · rw [List.getElem?_append_left hil] at hk ⊢; exact hk
      · obtain ⟨m, rfl⟩ : ∃ m, i = H.length + (m + 1) := ⟨i - H.length - 1, by omega⟩
        rw [get_own, List.getElem?_cons_succ] at hk ⊢
        by_cases hmj : j = m
        · subst hmj; rw [hj] at hk; cases hk
        · rw [List.getElem?_set_ne hmj]; exact hk
theorem str_spec {K : List O} {t : List UInt8} (hB : BldAt H K t) (hQ : ∀ Gs, Q (dS (str t)) (H ++ Gs)) : CallA Tryd.prog G 40 [.ptr H.length 0] K Q := by
  rcases hB with ⟨rfl, Gs, rfl⟩ | ⟨h0, Gs, j, ver, hj, rfl⟩
  · exact string_nil_spec (id := H.length) (a := .lit (.pointer none)) (by rw [get_own0]; rfl) (hQ _)
  · have hjl : j < Gs.length := (List.getElem?_eq_some_iff.1 hj).1
    refine string_row_spec (id := H.length) (rid := H.length + (j + 1)) (ver := ver) (a := .ptr H.length 0) t h0 (by rw [get_own0]; rfl) (by rw [get_own, List.getElem?_cons_succ]; exact hj) ?_
    rw [set_own]
    exact hQ _
end Go.Proofs.Tryd
set_option maxRecDepth 100000
set_option maxHeartbeats 2000000
set_option linter.unusedSimpArgs false
set_option linter.unusedVariables false
namespace Go.Proofs.Tryd
open Go Go.DL
variable {G : Nat → D} {H : List O} {Q : D → List O → Prop}
theorem isWhat_eq (s : List UInt8) : isWhat kindsL s = whatsL.contains s := by
  rw [Bool.eq_iff_iff]
  simp only [isWhat, kindsL, whatsL, Bool.or_eq_true, Bool.and_eq_true, beq_iff_eq, bne_iff_ne, List.contains_iff_mem, List.mem_cons, List.not_mem_nil, or_false]
  constructor
  · rintro (h | ⟨_, h⟩)
    · simp [h]
    · rcases h with h | h | h | h | h | h | h | h | h | h | h | h | h | h <;> simp [h]
  · rintro (h | h | h | h | h | h | h) <;> subst h <;> decide
def whoAt (who : List Int) (j : Nat) : Bool := decide (0 ≤ who.getD j 0) && decide (who.getD j 0 ≤ 7) && (j == 0 || decide (who.getD (j - 1) 0 < who.getD j 0))
def whoOk (who : List Int) : Bool := (List.range who.length).all (whoAt who)
def bl8 (b : ByteArray) : List UInt8 := b.data.toList
theorem bl8_str (l : List UInt8) : bl8 (str l) = l := str_list l
theorem str_bl8 (b : ByteArray) : str (bl8 b) = b := (str_of b).symm
def ruleOk (r : Rule) : Bool := whatsL.contains (bl8 r.what) && (bl8 r.mod == [] || isWord kwL (bl8 r.mod)) && decide (1 ≤ r.n) && decide (r.n ≤ (r.who.length : Int)) && whoOk r.who
def validF (l : List Rule) : Bool := l.all ruleOk && decide (l.length ≤ 64)
def ruleLen (r : Rule) : Prop := (bl8 r.what).length ≤ 1099511627776 ∧ (bl8 r.mod).length ≤ 1099511627776 ∧ r.who.length ≤ 1099511627776
theorem validF_no {l : List Rule} {k : Nat} (h : k < l.length) (hk : ruleOk (l[k]'h) = false) : validF l = false := by
  unfold validF
  rw [← Bool.not_eq_true, Bool.and_eq_true, List.all_eq_true]
  intro q
  have := q.1 _ (List.getElem_mem h)
  rw [hk] at this; cases this
theorem whoOk_no {who : List Int} {j : Nat} (h : j < who.length) (hj : whoAt who j = false) : whoOk who = false := by
  unfold whoOk
  rw [← Bool.not_eq_true, List.all_eq_true]
  intro q
  have := q j (List.mem_range.2 h)
  rw [hj] at this; cases this
theorem validF_end {l : List Rule} (h : ∀ j, j < l.length → ∀ h : j < l.length, ruleOk (l[j]'h) = true) : validF l = decide (l.length ≤ 64) := by
  unfold validF
  have : l.all ruleOk = true := by
    rw [List.all_eq_true]
    intro r hr
    obtain ⟨j, hj, rfl⟩ := List.mem_iff_getElem.1 hr
    exact h j hj hj
  rw [this, Bool.true_and]
theorem valid_spec (hE : Env G) (l : List Rule) (hl : l.length ≤ 1099511627776) (hr : ∀ r ∈ l, ruleLen r) (hQ : Q (dB (validF l)) H) : CallA Tryd.prog G 19 [.sl (rulesD l)] H Q := by
  refine CallA.drop (s19 (Nat.le_of_ble_eq_true rfl) ?_)
  have fin : ∀ z, validF l = z → ∀ Gs, ∃ Gs_1, H ++ Gs = H ++ Gs_1 ∧ Below H.length (.lit (.bool z)) ∧ Q (.lit (.bool z)) H := fun z hz Gs => ⟨Gs, rfl, .lit _, hz ▸ hQ⟩
  simp -dsimp -implicitDefEqProofs (maxSteps := 1000000) (disch := first | omega | (simp only [List.length_append, List.length_cons, List.length_nil]; omega) | (intros; simp only [ne_eq, reduceCtorEq, not_false_eq_true] <;> fail)) only [DL.R, Nat.reduceEqDiff, ↓reduceIte, reduceCtorEq, Int.reduceToNat, Int.reduceLE, Int.reduceLT, Nat.reduceLeDiff, Nat.reduceAdd, Nat.reduceMul, Int.reduceBNe, Int.reduceBEq, Int.cast_ofNat_Int, decide_true, decide_false, ne_eq, eq_self, implies_true, dc19_r0, dc19_r1, dc19_r2, dc19_r3, dc19_r4, dc19_r5, dc19_r6, dc19_r7, dc19_r8, dc19_r9, dc19_r10, dc19_r11, dc19_r12, dc19_r13, dc19, DL.dI, DL.dB, DL.dS]
  have hlen : (rulesD l).length = l.length := rules_len l
  refine for_i 9 l.length (fun k s' H' => (∃ Gs, H' = H ++ Gs) ∧ s' 0 = .sl (rulesD l) ∧ s' 7 = .sl (rulesD l) ∧ s' 8 = dI l.length ∧ ∀ j, j < k → ∀ h : j < l.length, ruleOk (l[j]'h) = true) ?_ ?_ ?_
  · simp -dsimp -implicitDefEqProofs (maxSteps := 1000000) (disch := first | omega | (simp only [List.length_append, List.length_cons, List.length_nil]; omega) | (intros; simp only [ne_eq, reduceCtorEq, not_false_eq_true] <;> fail)) only [DL.R, Nat.reduceEqDiff, ↓reduceIte, reduceCtorEq, Int.reduceToNat, Int.reduceLE, Int.reduceLT, Nat.reduceLeDiff, Nat.reduceAdd, Nat.reduceMul, Int.reduceBNe, Int.reduceBEq, Int.cast_ofNat_Int, decide_true, decide_false, ne_eq, eq_self, implies_true, DL.dI, DL.dB, DL.dS]
  · simp -dsimp -implicitDefEqProofs (maxSteps := 1000000) (disch := first | omega | (simp only [List.length_append, List.length_cons, List.length_nil]; omega) | (intros; simp only [ne_eq, reduceCtorEq, not_false_eq_true] <;> fail)) only [DL.R, Nat.reduceEqDiff, ↓reduceIte, reduceCtorEq, Int.reduceToNat, Int.reduceLE, Int.reduceLT, Nat.reduceLeDiff, Nat.reduceAdd, Nat.reduceMul, Int.reduceBNe, Int.reduceBEq, Int.cast_ofNat_Int, decide_true, decide_false, ne_eq, eq_self, implies_true, DL.dI, DL.dB, DL.dS, hlen]
    exact ⟨⟨[], by simp⟩, fun j hj => absurd hj (by omega)⟩
  · rintro k s' H' hk ht ⟨⟨Gs, rfl⟩, h0, h7, h8, hP⟩
    have h7' : s' 7 = .sl (l.map ruleD) := h7
    by_cases c : k < l.length
    · have c1 : decide ((k : Int) < (l.length : Int)) = true := decide_eq_true (by omega)
      obtain ⟨q, hq⟩ : ∃ q, l[k] = q := ⟨_, rfl⟩
      obtain ⟨l1, l2, l3⟩ := hr _ (List.getElem_mem c)
      rw [hq] at l1 l2 l3
      have no : ruleOk q = false → validF l = false := fun h => validF_no c (by rw [hq]; exact h)
      obtain ⟨qw, qm, qn, qwho⟩ := q
      simp only at l1 l2 l3
      obtain ⟨wl, hwl⟩ : ∃ wl, bl8 qw = wl := ⟨_, rfl⟩
      obtain ⟨ml, hml⟩ : ∃ ml, bl8 qm = ml := ⟨_, rfl⟩
      have ew : qw = str wl := by rw [← hwl, str_bl8]
      have em : qm = str ml := by rw [← hml, str_bl8]
      subst ew em
      rw [bl8_str] at l1 l2
      have hro : ruleOk ⟨str wl, str ml, qn, qwho⟩ = (whatsL.contains wl && (ml == [] || isWord kwL ml) && decide (1 ≤ qn) && decide (qn ≤ (qwho.length : Int)) && whoOk qwho) := by unfold ruleOk; rw [bl8_str, bl8_str]
      rw [hro] at no
      have hil : (ints qwho).length = qwho.length := by simp [ints]
      have hints : ints qwho = qwho.map dI := rfl
      simp -dsimp -implicitDefEqProofs (maxSteps := 1000000) (disch := first | omega | (simp only [List.length_append, List.length_cons, List.length_nil]; omega) | (intros; simp only [ne_eq, reduceCtorEq, not_false_eq_true] <;> fail)) only [DL.R, Nat.reduceEqDiff, ↓reduceIte, reduceCtorEq, Int.reduceToNat, Int.reduceLE, Int.reduceLT, Nat.reduceLeDiff, Nat.reduceAdd, Nat.reduceMul, Int.reduceBNe, Int.reduceBEq, Int.cast_ofNat_Int, decide_true, decide_false, ne_eq, eq_self, implies_true, dc19_r0, dc19_r1, dc19_r2, dc19_r3, dc19_r4, dc19_r5, dc19_r6, dc19_r7, dc19_r8, dc19_r9, dc19_r10, dc19_r11, dc19_r12, dc19_r13, dc19, DL.dI, DL.dB, DL.dS, h0, h7', h8, ht, c1, hq, ruleD, ruleL, DL.wrap_id]
      refine what_spec kindsL rfl wl hE.kinds ?_
      rw [isWhat_eq]
      by_cases b1 : whatsL.contains wl = true
      · by_cases b2 : ml = []
        · have d2 : (ml == []) = true := by simp [b2]
          by_cases b4 : 1 ≤ qn
          · have d4 : decide (qn < 1) = false := decide_eq_false (by omega)
            have d4' : decide (1 ≤ qn) = true := decide_eq_true b4
            by_cases b5 : qn ≤ (qwho.length : Int)
            · have d5 : decide (qn > (qwho.length : Int)) = false := decide_eq_false (by omega)
              have d5' : decide (qn ≤ (qwho.length : Int)) = true := decide_eq_true b5
              have hro2 : ruleOk ⟨str wl, str ml, qn, qwho⟩ = whoOk qwho := by rw [hro]; simp only [b1, d2, d4', d5', Bool.true_or, Bool.or_true, Bool.true_and]
              simp -dsimp -implicitDefEqProofs (maxSteps := 1000000) (disch := first | omega | (simp only [List.length_append, List.length_cons, List.length_nil]; omega) | (intros; simp only [ne_eq, reduceCtorEq, not_false_eq_true] <;> fail)) only [DL.R, Nat.reduceEqDiff, ↓reduceIte, reduceCtorEq, Int.reduceToNat, Int.reduceLE, Int.reduceLT, Nat.reduceLeDiff, Nat.reduceAdd, Nat.reduceMul, Int.reduceBNe, Int.reduceBEq, Int.cast_ofNat_Int, decide_true, decide_false, ne_eq, eq_self, implies_true, dc19_r0, dc19_r1, dc19_r2, dc19_r3, dc19_r4, dc19_r5, dc19_r6, dc19_r7, dc19_r8, dc19_r9, dc19_r10, dc19_r11, dc19_r12, dc19_r13, dc19, DL.dI, DL.dB, DL.dS, b1, d2, d4, d5, hil, DL.wrap_id]
              refine for_i 44 qwho.length (fun i s'' H'' => (∃ Gx, H'' = H ++ (Gs ++ (.box 42 [dS (str wl), dS (str ml), dI qn, .sl (ints qwho)] :: Gx))) ∧ s'' 0 = .sl (rulesD l) ∧ s'' 7 = .sl (rulesD l) ∧ s'' 8 = dI l.length ∧ s'' 9 = dI k ∧ s'' 4 = .ptr (H.length + Gs.length) 0 ∧ s'' 42 = .sl (ints qwho) ∧ s'' 43 = dI qwho.length ∧ ∀ j, j < i → j < qwho.length → whoAt qwho j = true) ?_ ?_ ?_
              · simp -dsimp -implicitDefEqProofs (maxSteps := 1000000) (disch := first | omega | (simp only [List.length_append, List.length_cons, List.length_nil]; omega) | (intros; simp only [ne_eq, reduceCtorEq, not_false_eq_true] <;> fail)) only [DL.R, Nat.reduceEqDiff, ↓reduceIte, reduceCtorEq, Int.reduceToNat, Int.reduceLE, Int.reduceLT, Nat.reduceLeDiff, Nat.reduceAdd, Nat.reduceMul, Int.reduceBNe, Int.reduceBEq, Int.cast_ofNat_Int, decide_true, decide_false, ne_eq, eq_self, implies_true, DL.dI, DL.dB, DL.dS]
              · simp -dsimp -implicitDefEqProofs (maxSteps := 1000000) (disch := first | omega | (simp only [List.length_append, List.length_cons, List.length_nil]; omega) | (intros; simp only [ne_eq, reduceCtorEq, not_false_eq_true] <;> fail)) only [DL.R, Nat.reduceEqDiff, ↓reduceIte, reduceCtorEq, Int.reduceToNat, Int.reduceLE, Int.reduceLT, Nat.reduceLeDiff, Nat.reduceAdd, Nat.reduceMul, Int.reduceBNe, Int.reduceBEq, Int.cast_ofNat_Int, decide_true, decide_false, ne_eq, eq_self, implies_true, DL.dI, DL.dB, DL.dS, h0, h7, h8, ht]
                exact ⟨⟨[], rfl⟩, fun j hj => absurd hj (by omega)⟩
              · rintro i s'' H'' hi gt ⟨⟨Gs2, rfl⟩, g0, g7, g8, g9, g4, g42, g43, gP⟩
                have g42' : s'' 42 = .sl (qwho.map dI) := g42
                by_cases e : i < qwho.length
                · have f1 : decide ((i : Int) < (qwho.length : Int)) = true := decide_eq_true (by omega)
                  have hgd : qwho.getD i 0 = qwho[i] := by rw [List.getD_eq_getElem?_getD, List.getElem?_eq_getElem e]; rfl
                  obtain ⟨x, hx⟩ : ∃ x, qwho[i] = x := ⟨_, rfl⟩
                  rw [hx] at hgd
                  have no2 : whoAt qwho i = false → validF l = false := fun h => validF_no c (by rw [hq, hro2]; exact whoOk_no e h)
                  have hat : whoAt qwho i = (decide (0 ≤ x) && decide (x ≤ 7) && (i == 0 || decide (qwho.getD (i - 1) 0 < x))) := by unfold whoAt; rw [hgd]
                  rw [hat] at no2
                  have go : whoAt qwho i = true → ∀ j, j < i + 1 → j < qwho.length → whoAt qwho j = true := fun h j hj hjl => by
                    by_cases hji : j < i
                    · exact gP j hji hjl
                    · have : j = i := by omega
                      subst this; exact h
                  rw [hat] at go
                  by_cases x0 : 0 ≤ x
                  · have y0 : decide (x < 0) = false := decide_eq_false (by omega)
                    have y0' : decide (0 ≤ x) = true := decide_eq_true x0
                    by_cases x7 : x ≤ 7
                    · have y7 : decide (x ≥ 8) = false := decide_eq_false (by omega)
                      have y7' : decide (x ≤ 7) = true := decide_eq_true x7
                      by_cases i0 : i = 0
                      · have j0 : decide ((i : Int) > 0) = false := decide_eq_false (by omega)
                        have j0' : (i == 0) = true := by simp [i0]
                        simp -dsimp -implicitDefEqProofs (maxSteps := 1000000) (disch := first | omega | (simp only [List.length_append, List.length_cons, List.length_nil]; omega) | (intros; simp only [ne_eq, reduceCtorEq, not_false_eq_true] <;> fail)) only [DL.R, Nat.reduceEqDiff, ↓reduceIte, reduceCtorEq, Int.reduceToNat, Int.reduceLE, Int.reduceLT, Nat.reduceLeDiff, Nat.reduceAdd, Nat.reduceMul, Int.reduceBNe, Int.reduceBEq, Int.cast_ofNat_Int, decide_true, decide_false, ne_eq, eq_self, implies_true, dc19_r0, dc19_r1, dc19_r2, dc19_r3, dc19_r4, dc19_r5, dc19_r6, dc19_r7, dc19_r8, dc19_r9, dc19_r10, dc19_r11, dc19_r12, dc19_r13, dc19, DL.dI, DL.dB, DL.dS, g0, g7, g8, g9, g4, g42', g43, gt, f1, hx, y0, y7, j0, DL.wrap_id]
                        exact ⟨e, ⟨_, rfl⟩, rfl, go (by simp only [y0', y7', j0', Bool.true_and, Bool.true_or])⟩
                      · have j0 : decide ((i : Int) > 0) = true := decide_eq_true (by omega)
                        have j0' : (i == 0) = false := by simp [i0]
                        have hpr : qwho.getD (i - 1) 0 = qwho[i - 1] := by rw [List.getD_eq_getElem?_getD, List.getElem?_eq_getElem (by omega)]; rfl
                        have hpn : ((i : Int) - 1).toNat = i - 1 := by omega
                        obtain ⟨pv, hpv⟩ : ∃ pv, qwho[i - 1] = pv := ⟨_, rfl⟩
                        rw [hpv] at hpr
                        by_cases xp : pv < x
                        · have yp : decide (x ≤ pv) = false := decide_eq_false (by omega)
                          have yp' : decide (pv < x) = true := decide_eq_true xp
                          simp -dsimp -implicitDefEqProofs (maxSteps := 1000000) (disch := first | omega | (simp only [List.length_append, List.length_cons, List.length_nil]; omega) | (intros; simp only [ne_eq, reduceCtorEq, not_false_eq_true] <;> fail)) only [DL.R, Nat.reduceEqDiff, ↓reduceIte, reduceCtorEq, Int.reduceToNat, Int.reduceLE, Int.reduceLT, Nat.reduceLeDiff, Nat.reduceAdd, Nat.reduceMul, Int.reduceBNe, Int.reduceBEq, Int.cast_ofNat_Int, decide_true, decide_false, ne_eq, eq_self, implies_true, dc19_r0, dc19_r1, dc19_r2, dc19_r3, dc19_r4, dc19_r5, dc19_r6, dc19_r7, dc19_r8, dc19_r9, dc19_r10, dc19_r11, dc19_r12, dc19_r13, dc19, DL.dI, DL.dB, DL.dS, g0, g7, g8, g9, g4, g42', g43, gt, f1, hx, y0, y7, j0, hints, hpn, hpv, yp, DL.wrap_id]
                          exact ⟨e, ⟨_, rfl⟩, go (by simp only [y0', y7', hpr, yp', Bool.true_and, Bool.or_true])⟩
                        · have yp : decide (x ≤ pv) = true := decide_eq_true (by omega)
                          have yp' : decide (pv < x) = false := decide_eq_false xp
                          simp -dsimp -implicitDefEqProofs (maxSteps := 1000000) (disch := first | omega | (simp only [List.length_append, List.length_cons, List.length_nil]; omega) | (intros; simp only [ne_eq, reduceCtorEq, not_false_eq_true] <;> fail)) only [DL.R, Nat.reduceEqDiff, ↓reduceIte, reduceCtorEq, Int.reduceToNat, Int.reduceLE, Int.reduceLT, Nat.reduceLeDiff, Nat.reduceAdd, Nat.reduceMul, Int.reduceBNe, Int.reduceBEq, Int.cast_ofNat_Int, decide_true, decide_false, ne_eq, eq_self, implies_true, dc19_r0, dc19_r1, dc19_r2, dc19_r3, dc19_r4, dc19_r5, dc19_r6, dc19_r7, dc19_r8, dc19_r9, dc19_r10, dc19_r11, dc19_r12, dc19_r13, dc19, DL.dI, DL.dB, DL.dS, g0, g7, g8, g9, g4, g42', g43, gt, f1, hx, y0, y7, j0, hints, hpn, hpv, yp, DL.wrap_id]
                          exact fin _ (no2 (by simp only [hpr, yp', j0', Bool.or_false, Bool.and_false, Bool.false_or])) _
                    · have y7 : decide (x ≥ 8) = true := decide_eq_true (by omega)
                      have y7' : decide (x ≤ 7) = false := decide_eq_false x7
                      simp -dsimp -implicitDefEqProofs (maxSteps := 1000000) (disch := first | omega | (simp only [List.length_append, List.length_cons, List.length_nil]; omega) | (intros; simp only [ne_eq, reduceCtorEq, not_false_eq_true] <;> fail)) only [DL.R, Nat.reduceEqDiff, ↓reduceIte, reduceCtorEq, Int.reduceToNat, Int.reduceLE, Int.reduceLT, Nat.reduceLeDiff, Nat.reduceAdd, Nat.reduceMul, Int.reduceBNe, Int.reduceBEq, Int.cast_ofNat_Int, decide_true, decide_false, ne_eq, eq_self, implies_true, dc19_r0, dc19_r1, dc19_r2, dc19_r3, dc19_r4, dc19_r5, dc19_r6, dc19_r7, dc19_r8, dc19_r9, dc19_r10, dc19_r11, dc19_r12, dc19_r13, dc19, DL.dI, DL.dB, DL.dS, g0, g7, g8, g9, g4, g42', g43, gt, f1, hx, y0, y7]
                      exact fin _ (no2 (by simp only [y7', Bool.and_false, Bool.false_and])) _
                  · have y0 : decide (x < 0) = true := decide_eq_true (by omega)
                    have y0' : decide (0 ≤ x) = false := decide_eq_false x0
                    simp -dsimp -implicitDefEqProofs (maxSteps := 1000000) (disch := first | omega | (simp only [List.length_append, List.length_cons, List.length_nil]; omega) | (intros; simp only [ne_eq, reduceCtorEq, not_false_eq_true] <;> fail)) only [DL.R, Nat.reduceEqDiff, ↓reduceIte, reduceCtorEq, Int.reduceToNat, Int.reduceLE, Int.reduceLT, Nat.reduceLeDiff, Nat.reduceAdd, Nat.reduceMul, Int.reduceBNe, Int.reduceBEq, Int.cast_ofNat_Int, decide_true, decide_false, ne_eq, eq_self, implies_true, dc19_r0, dc19_r1, dc19_r2, dc19_r3, dc19_r4, dc19_r5, dc19_r6, dc19_r7, dc19_r8, dc19_r9, dc19_r10, dc19_r11, dc19_r12, dc19_r13, dc19, DL.dI, DL.dB, DL.dS, g0, g7, g8, g9, g4, g42', g43, gt, f1, hx, y0]
                    exact fin _ (no2 (by simp only [y0', Bool.false_and])) _
                · have f1 : decide ((i : Int) < (qwho.length : Int)) = false := decide_eq_false (by omega)
                  simp -dsimp -implicitDefEqProofs (maxSteps := 1000000) (disch := first | omega | (simp only [List.length_append, List.length_cons, List.length_nil]; omega) | (intros; simp only [ne_eq, reduceCtorEq, not_false_eq_true] <;> fail)) only [DL.R, Nat.reduceEqDiff, ↓reduceIte, reduceCtorEq, Int.reduceToNat, Int.reduceLE, Int.reduceLT, Nat.reduceLeDiff, Nat.reduceAdd, Nat.reduceMul, Int.reduceBNe, Int.reduceBEq, Int.cast_ofNat_Int, decide_true, decide_false, ne_eq, eq_self, implies_true, dc19_r0, dc19_r1, dc19_r2, dc19_r3, dc19_r4, dc19_r5, dc19_r6, dc19_r7, dc19_r8, dc19_r9, dc19_r10, dc19_r11, dc19_r12, dc19_r13, dc19, DL.dI, DL.dB, DL.dS, g0, g7, g8, g9, g4, g42, g43, gt, f1, DL.wrap_id]
                  refine ⟨c, ⟨_, rfl⟩, fun j hj h => ?_⟩
                  by_cases hjk : j < k
                  · exact hP j hjk h
                  · have : j = k := by omega
                    subst this
                    rw [hq, hro2]
                    unfold whoOk
                    rw [List.all_eq_true]
                    intro m hm
                    exact gP m (by have := List.mem_range.1 hm; omega) (List.mem_range.1 hm)
            · have d5 : decide (qn > (qwho.length : Int)) = true := decide_eq_true (by omega)
              have d5' : decide (qn ≤ (qwho.length : Int)) = false := decide_eq_false b5
              simp -dsimp -implicitDefEqProofs (maxSteps := 1000000) (disch := first | omega | (simp only [List.length_append, List.length_cons, List.length_nil]; omega) | (intros; simp only [ne_eq, reduceCtorEq, not_false_eq_true] <;> fail)) only [DL.R, Nat.reduceEqDiff, ↓reduceIte, reduceCtorEq, Int.reduceToNat, Int.reduceLE, Int.reduceLT, Nat.reduceLeDiff, Nat.reduceAdd, Nat.reduceMul, Int.reduceBNe, Int.reduceBEq, Int.cast_ofNat_Int, decide_true, decide_false, ne_eq, eq_self, implies_true, dc19_r0, dc19_r1, dc19_r2, dc19_r3, dc19_r4, dc19_r5, dc19_r6, dc19_r7, dc19_r8, dc19_r9, dc19_r10, dc19_r11, dc19_r12, dc19_r13, dc19, DL.dI, DL.dB, DL.dS, b1, d2, d4, d5, hil]
              exact fin _ (no (by simp only [d5', Bool.and_false, Bool.false_and])) _
          · have d4 : decide (qn < 1) = true := decide_eq_true (by omega)
            have d4' : decide (1 ≤ qn) = false := decide_eq_false b4
            simp -dsimp -implicitDefEqProofs (maxSteps := 1000000) (disch := first | omega | (simp only [List.length_append, List.length_cons, List.length_nil]; omega) | (intros; simp only [ne_eq, reduceCtorEq, not_false_eq_true] <;> fail)) only [DL.R, Nat.reduceEqDiff, ↓reduceIte, reduceCtorEq, Int.reduceToNat, Int.reduceLE, Int.reduceLT, Nat.reduceLeDiff, Nat.reduceAdd, Nat.reduceMul, Int.reduceBNe, Int.reduceBEq, Int.cast_ofNat_Int, decide_true, decide_false, ne_eq, eq_self, implies_true, dc19_r0, dc19_r1, dc19_r2, dc19_r3, dc19_r4, dc19_r5, dc19_r6, dc19_r7, dc19_r8, dc19_r9, dc19_r10, dc19_r11, dc19_r12, dc19_r13, dc19, DL.dI, DL.dB, DL.dS, b1, d2, d4]
            exact fin _ (no (by simp only [d4', Bool.and_false, Bool.false_and])) _
        · have d2 : (ml == []) = false := by simp [b2]
          simp -dsimp -implicitDefEqProofs (maxSteps := 1000000) (disch := first | omega | (simp only [List.length_append, List.length_cons, List.length_nil]; omega) | (intros; simp only [ne_eq, reduceCtorEq, not_false_eq_true] <;> fail)) only [DL.R, Nat.reduceEqDiff, ↓reduceIte, reduceCtorEq, Int.reduceToNat, Int.reduceLE, Int.reduceLT, Nat.reduceLeDiff, Nat.reduceAdd, Nat.reduceMul, Int.reduceBNe, Int.reduceBEq, Int.cast_ofNat_Int, decide_true, decide_false, ne_eq, eq_self, implies_true, dc19_r0, dc19_r1, dc19_r2, dc19_r3, dc19_r4, dc19_r5, dc19_r6, dc19_r7, dc19_r8, dc19_r9, dc19_r10, dc19_r11, dc19_r12, dc19_r13, dc19, DL.dI, DL.dB, DL.dS, b1, d2, DL.wrap_id]
          refine word_spec kwL rfl ml l2 hE.kw hE.kindsF hE.signs ?_
          by_cases b3 : isWord kwL ml = true
          · by_cases b4 : 1 ≤ qn
            · have d4 : decide (qn < 1) = false := decide_eq_false (by omega)
              have d4' : decide (1 ≤ qn) = true := decide_eq_true b4
              by_cases b5 : qn ≤ (qwho.length : Int)
              · have d5 : decide (qn > (qwho.length : Int)) = false := decide_eq_false (by omega)
                have d5' : decide (qn ≤ (qwho.length : Int)) = true := decide_eq_true b5
                have hro2 : ruleOk ⟨str wl, str ml, qn, qwho⟩ = whoOk qwho := by rw [hro]; simp only [b1, d2, b3, d4', d5', Bool.true_or, Bool.or_true, Bool.true_and]
                simp -dsimp -implicitDefEqProofs (maxSteps := 1000000) (disch := first | omega | (simp only [List.length_append, List.length_cons, List.length_nil]; omega) | (intros; simp only [ne_eq, reduceCtorEq, not_false_eq_true] <;> fail)) only [DL.R, Nat.reduceEqDiff, ↓reduceIte, reduceCtorEq, Int.reduceToNat, Int.reduceLE, Int.reduceLT, Nat.reduceLeDiff, Nat.reduceAdd, Nat.reduceMul, Int.reduceBNe, Int.reduceBEq, Int.cast_ofNat_Int, decide_true, decide_false, ne_eq, eq_self, implies_true, dc19_r0, dc19_r1, dc19_r2, dc19_r3, dc19_r4, dc19_r5, dc19_r6, dc19_r7, dc19_r8, dc19_r9, dc19_r10, dc19_r11, dc19_r12, dc19_r13, dc19, DL.dI, DL.dB, DL.dS, b3, d4, d5, hil, DL.wrap_id]
                refine for_i 44 qwho.length (fun i s'' H'' => (∃ Gx, H'' = H ++ (Gs ++ (.box 42 [dS (str wl), dS (str ml), dI qn, .sl (ints qwho)] :: Gx))) ∧ s'' 0 = .sl (rulesD l) ∧ s'' 7 = .sl (rulesD l) ∧ s'' 8 = dI l.length ∧ s'' 9 = dI k ∧ s'' 4 = .ptr (H.length + Gs.length) 0 ∧ s'' 42 = .sl (ints qwho) ∧ s'' 43 = dI qwho.length ∧ ∀ j, j < i → j < qwho.length → whoAt qwho j = true) ?_ ?_ ?_
                · simp -dsimp -implicitDefEqProofs (maxSteps := 1000000) (disch := first | omega | (simp only [List.length_append, List.length_cons, List.length_nil]; omega) | (intros; simp only [ne_eq, reduceCtorEq, not_false_eq_true] <;> fail)) only [DL.R, Nat.reduceEqDiff, ↓reduceIte, reduceCtorEq, Int.reduceToNat, Int.reduceLE, Int.reduceLT, Nat.reduceLeDiff, Nat.reduceAdd, Nat.reduceMul, Int.reduceBNe, Int.reduceBEq, Int.cast_ofNat_Int, decide_true, decide_false, ne_eq, eq_self, implies_true, DL.dI, DL.dB, DL.dS]
                · simp -dsimp -implicitDefEqProofs (maxSteps := 1000000) (disch := first | omega | (simp only [List.length_append, List.length_cons, List.length_nil]; omega) | (intros; simp only [ne_eq, reduceCtorEq, not_false_eq_true] <;> fail)) only [DL.R, Nat.reduceEqDiff, ↓reduceIte, reduceCtorEq, Int.reduceToNat, Int.reduceLE, Int.reduceLT, Nat.reduceLeDiff, Nat.reduceAdd, Nat.reduceMul, Int.reduceBNe, Int.reduceBEq, Int.cast_ofNat_Int, decide_true, decide_false, ne_eq, eq_self, implies_true, DL.dI, DL.dB, DL.dS, h0, h7, h8, ht]
                  exact ⟨⟨[], rfl⟩, fun j hj => absurd hj (by omega)⟩
                · rintro i s'' H'' hi gt ⟨⟨Gs2, rfl⟩, g0, g7, g8, g9, g4, g42, g43, gP⟩
                  have g42' : s'' 42 = .sl (qwho.map dI) := g42
                  by_cases e : i < qwho.length
                  · have f1 : decide ((i : Int) < (qwho.length : Int)) = true := decide_eq_true (by omega)
                    have hgd : qwho.getD i 0 = qwho[i] := by rw [List.getD_eq_getElem?_getD, List.getElem?_eq_getElem e]; rfl
                    obtain ⟨x, hx⟩ : ∃ x, qwho[i] = x := ⟨_, rfl⟩
                    rw [hx] at hgd
                    have no2 : whoAt qwho i = false → validF l = false := fun h => validF_no c (by rw [hq, hro2]; exact whoOk_no e h)
                    have hat : whoAt qwho i = (decide (0 ≤ x) && decide (x ≤ 7) && (i == 0 || decide (qwho.getD (i - 1) 0 < x))) := by unfold whoAt; rw [hgd]
                    rw [hat] at no2
                    have go : whoAt qwho i = true → ∀ j, j < i + 1 → j < qwho.length → whoAt qwho j = true := fun h j hj hjl => by
                      by_cases hji : j < i
                      · exact gP j hji hjl
                      · have : j = i := by omega
                        subst this; exact h
                    rw [hat] at go
                    by_cases x0 : 0 ≤ x
                    · have y0 : decide (x < 0) = false := decide_eq_false (by omega)
                      have y0' : decide (0 ≤ x) = true := decide_eq_true x0
                      by_cases x7 : x ≤ 7
                      · have y7 : decide (x ≥ 8) = false := decide_eq_false (by omega)
                        have y7' : decide (x ≤ 7) = true := decide_eq_true x7
                        by_cases i0 : i = 0
                        · have j0 : decide ((i : Int) > 0) = false := decide_eq_false (by omega)
                          have j0' : (i == 0) = true := by simp [i0]
                          simp -dsimp -implicitDefEqProofs (maxSteps := 1000000) (disch := first | omega | (simp only [List.length_append, List.length_cons, List.length_nil]; omega) | (intros; simp only [ne_eq, reduceCtorEq, not_false_eq_true] <;> fail)) only [DL.R, Nat.reduceEqDiff, ↓reduceIte, reduceCtorEq, Int.reduceToNat, Int.reduceLE, Int.reduceLT, Nat.reduceLeDiff, Nat.reduceAdd, Nat.reduceMul, Int.reduceBNe, Int.reduceBEq, Int.cast_ofNat_Int, decide_true, decide_false, ne_eq, eq_self, implies_true, dc19_r0, dc19_r1, dc19_r2, dc19_r3, dc19_r4, dc19_r5, dc19_r6, dc19_r7, dc19_r8, dc19_r9, dc19_r10, dc19_r11, dc19_r12, dc19_r13, dc19, DL.dI, DL.dB, DL.dS, g0, g7, g8, g9, g4, g42', g43, gt, f1, hx, y0, y7, j0, DL.wrap_id]
                          exact ⟨e, ⟨_, rfl⟩, rfl, go (by simp only [y0', y7', j0', Bool.true_and, Bool.true_or])⟩
                        · have j0 : decide ((i : Int) > 0) = true := decide_eq_true (by omega)
                          have j0' : (i == 0) = false := by simp [i0]
                          have hpr : qwho.getD (i - 1) 0 = qwho[i - 1] := by rw [List.getD_eq_getElem?_getD, List.getElem?_eq_getElem (by omega)]; rfl
                          have hpn : ((i : Int) - 1).toNat = i - 1 := by omega
                          obtain ⟨pv, hpv⟩ : ∃ pv, qwho[i - 1] = pv := ⟨_, rfl⟩
                          rw [hpv] at hpr
                          by_cases xp : pv < x
                          · have yp : decide (x ≤ pv) = false := decide_eq_false (by omega)
                            have yp' : decide (pv < x) = true := decide_eq_true xp
                            simp -dsimp -implicitDefEqProofs (maxSteps := 1000000) (disch := first | omega | (simp only [List.length_append, List.length_cons, List.length_nil]; omega) | (intros; simp only [ne_eq, reduceCtorEq, not_false_eq_true] <;> fail)) only [DL.R, Nat.reduceEqDiff, ↓reduceIte, reduceCtorEq, Int.reduceToNat, Int.reduceLE, Int.reduceLT, Nat.reduceLeDiff, Nat.reduceAdd, Nat.reduceMul, Int.reduceBNe, Int.reduceBEq, Int.cast_ofNat_Int, decide_true, decide_false, ne_eq, eq_self, implies_true, dc19_r0, dc19_r1, dc19_r2, dc19_r3, dc19_r4, dc19_r5, dc19_r6, dc19_r7, dc19_r8, dc19_r9, dc19_r10, dc19_r11, dc19_r12, dc19_r13, dc19, DL.dI, DL.dB, DL.dS, g0, g7, g8, g9, g4, g42', g43, gt, f1, hx, y0, y7, j0, hints, hpn, hpv, yp, DL.wrap_id]
                            exact ⟨e, ⟨_, rfl⟩, go (by simp only [y0', y7', hpr, yp', Bool.true_and, Bool.or_true])⟩
                          · have yp : decide (x ≤ pv) = true := decide_eq_true (by omega)
                            have yp' : decide (pv < x) = false := decide_eq_false xp
                            simp -dsimp -implicitDefEqProofs (maxSteps := 1000000) (disch := first | omega | (simp only [List.length_append, List.length_cons, List.length_nil]; omega) | (intros; simp only [ne_eq, reduceCtorEq, not_false_eq_true] <;> fail)) only [DL.R, Nat.reduceEqDiff, ↓reduceIte, reduceCtorEq, Int.reduceToNat, Int.reduceLE, Int.reduceLT, Nat.reduceLeDiff, Nat.reduceAdd, Nat.reduceMul, Int.reduceBNe, Int.reduceBEq, Int.cast_ofNat_Int, decide_true, decide_false, ne_eq, eq_self, implies_true, dc19_r0, dc19_r1, dc19_r2, dc19_r3, dc19_r4, dc19_r5, dc19_r6, dc19_r7, dc19_r8, dc19_r9, dc19_r10, dc19_r11, dc19_r12, dc19_r13, dc19, DL.dI, DL.dB, DL.dS, g0, g7, g8, g9, g4, g42', g43, gt, f1, hx, y0, y7, j0, hints, hpn, hpv, yp, DL.wrap_id]
                            exact fin _ (no2 (by simp only [hpr, yp', j0', Bool.or_false, Bool.and_false, Bool.false_or])) _
                      · have y7 : decide (x ≥ 8) = true := decide_eq_true (by omega)
                        have y7' : decide (x ≤ 7) = false := decide_eq_false x7
                        simp -dsimp -implicitDefEqProofs (maxSteps := 1000000) (disch := first | omega | (simp only [List.length_append, List.length_cons, List.length_nil]; omega) | (intros; simp only [ne_eq, reduceCtorEq, not_false_eq_true] <;> fail)) only [DL.R, Nat.reduceEqDiff, ↓reduceIte, reduceCtorEq, Int.reduceToNat, Int.reduceLE, Int.reduceLT, Nat.reduceLeDiff, Nat.reduceAdd, Nat.reduceMul, Int.reduceBNe, Int.reduceBEq, Int.cast_ofNat_Int, decide_true, decide_false, ne_eq, eq_self, implies_true, dc19_r0, dc19_r1, dc19_r2, dc19_r3, dc19_r4, dc19_r5, dc19_r6, dc19_r7, dc19_r8, dc19_r9, dc19_r10, dc19_r11, dc19_r12, dc19_r13, dc19, DL.dI, DL.dB, DL.dS, g0, g7, g8, g9, g4, g42', g43, gt, f1, hx, y0, y7]
                        exact fin _ (no2 (by simp only [y7', Bool.and_false, Bool.false_and])) _
                    · have y0 : decide (x < 0) = true := decide_eq_true (by omega)
                      have y0' : decide (0 ≤ x) = false := decide_eq_false x0
                      simp -dsimp -implicitDefEqProofs (maxSteps := 1000000) (disch := first | omega | (simp only [List.length_append, List.length_cons, List.length_nil]; omega) | (intros; simp only [ne_eq, reduceCtorEq, not_false_eq_true] <;> fail)) only [DL.R, Nat.reduceEqDiff, ↓reduceIte, reduceCtorEq, Int.reduceToNat, Int.reduceLE, Int.reduceLT, Nat.reduceLeDiff, Nat.reduceAdd, Nat.reduceMul, Int.reduceBNe, Int.reduceBEq, Int.cast_ofNat_Int, decide_true, decide_false, ne_eq, eq_self, implies_true, dc19_r0, dc19_r1, dc19_r2, dc19_r3, dc19_r4, dc19_r5, dc19_r6, dc19_r7, dc19_r8, dc19_r9, dc19_r10, dc19_r11, dc19_r12, dc19_r13, dc19, DL.dI, DL.dB, DL.dS, g0, g7, g8, g9, g4, g42', g43, gt, f1, hx, y0]
                      exact fin _ (no2 (by simp only [y0', Bool.false_and])) _
                  · have f1 : decide ((i : Int) < (qwho.length : Int)) = false := decide_eq_false (by omega)
                    simp -dsimp -implicitDefEqProofs (maxSteps := 1000000) (disch := first | omega | (simp only [List.length_append, List.length_cons, List.length_nil]; omega) | (intros; simp only [ne_eq, reduceCtorEq, not_false_eq_true] <;> fail)) only [DL.R, Nat.reduceEqDiff, ↓reduceIte, reduceCtorEq, Int.reduceToNat, Int.reduceLE, Int.reduceLT, Nat.reduceLeDiff, Nat.reduceAdd, Nat.reduceMul, Int.reduceBNe, Int.reduceBEq, Int.cast_ofNat_Int, decide_true, decide_false, ne_eq, eq_self, implies_true, dc19_r0, dc19_r1, dc19_r2, dc19_r3, dc19_r4, dc19_r5, dc19_r6, dc19_r7, dc19_r8, dc19_r9, dc19_r10, dc19_r11, dc19_r12, dc19_r13, dc19, DL.dI, DL.dB, DL.dS, g0, g7, g8, g9, g4, g42, g43, gt, f1, DL.wrap_id]
                    refine ⟨c, ⟨_, rfl⟩, fun j hj h => ?_⟩
                    by_cases hjk : j < k
                    · exact hP j hjk h
                    · have : j = k := by omega
                      subst this
                      rw [hq, hro2]
                      unfold whoOk
                      rw [List.all_eq_true]
                      intro m hm
                      exact gP m (by have := List.mem_range.1 hm; omega) (List.mem_range.1 hm)
              · have d5 : decide (qn > (qwho.length : Int)) = true := decide_eq_true (by omega)
                have d5' : decide (qn ≤ (qwho.length : Int)) = false := decide_eq_false b5
                simp -dsimp -implicitDefEqProofs (maxSteps := 1000000) (disch := first | omega | (simp only [List.length_append, List.length_cons, List.length_nil]; omega) | (intros; simp only [ne_eq, reduceCtorEq, not_false_eq_true] <;> fail)) only [DL.R, Nat.reduceEqDiff, ↓reduceIte, reduceCtorEq, Int.reduceToNat, Int.reduceLE, Int.reduceLT, Nat.reduceLeDiff, Nat.reduceAdd, Nat.reduceMul, Int.reduceBNe, Int.reduceBEq, Int.cast_ofNat_Int, decide_true, decide_false, ne_eq, eq_self, implies_true, dc19_r0, dc19_r1, dc19_r2, dc19_r3, dc19_r4, dc19_r5, dc19_r6, dc19_r7, dc19_r8, dc19_r9, dc19_r10, dc19_r11, dc19_r12, dc19_r13, dc19, DL.dI, DL.dB, DL.dS, b3, d4, d5, hil]
                exact fin _ (no (by simp only [d5', Bool.and_false, Bool.false_and])) _
            · have d4 : decide (qn < 1) = true := decide_eq_true (by omega)
              have d4' : decide (1 ≤ qn) = false := decide_eq_false b4
              simp -dsimp -implicitDefEqProofs (maxSteps := 1000000) (disch := first | omega | (simp only [List.length_append, List.length_cons, List.length_nil]; omega) | (intros; simp only [ne_eq, reduceCtorEq, not_false_eq_true] <;> fail)) only [DL.R, Nat.reduceEqDiff, ↓reduceIte, reduceCtorEq, Int.reduceToNat, Int.reduceLE, Int.reduceLT, Nat.reduceLeDiff, Nat.reduceAdd, Nat.reduceMul, Int.reduceBNe, Int.reduceBEq, Int.cast_ofNat_Int, decide_true, decide_false, ne_eq, eq_self, implies_true, dc19_r0, dc19_r1, dc19_r2, dc19_r3, dc19_r4, dc19_r5, dc19_r6, dc19_r7, dc19_r8, dc19_r9, dc19_r10, dc19_r11, dc19_r12, dc19_r13, dc19, DL.dI, DL.dB, DL.dS, b3, d4]
              exact fin _ (no (by simp only [d4', Bool.and_false, Bool.false_and])) _
          · have d3 : isWord kwL ml = false := by simpa using b3
            simp -dsimp -implicitDefEqProofs (maxSteps := 1000000) (disch := first | omega | (simp only [List.length_append, List.length_cons, List.length_nil]; omega) | (intros; simp only [ne_eq, reduceCtorEq, not_false_eq_true] <;> fail)) only [DL.R, Nat.reduceEqDiff, ↓reduceIte, reduceCtorEq, Int.reduceToNat, Int.reduceLE, Int.reduceLT, Nat.reduceLeDiff, Nat.reduceAdd, Nat.reduceMul, Int.reduceBNe, Int.reduceBEq, Int.cast_ofNat_Int, decide_true, decide_false, ne_eq, eq_self, implies_true, dc19_r0, dc19_r1, dc19_r2, dc19_r3, dc19_r4, dc19_r5, dc19_r6, dc19_r7, dc19_r8, dc19_r9, dc19_r10, dc19_r11, dc19_r12, dc19_r13, dc19, DL.dI, DL.dB, DL.dS, d3]
            exact fin _ (no (by simp only [d2, d3, Bool.false_or, Bool.and_false, Bool.false_and])) _
      · have d1 : whatsL.contains wl = false := by simpa using b1
        simp -dsimp -implicitDefEqProofs (maxSteps := 1000000) (disch := first | omega | (simp only [List.length_append, List.length_cons, List.length_nil]; omega) | (intros; simp only [ne_eq, reduceCtorEq, not_false_eq_true] <;> fail)) only [DL.R, Nat.reduceEqDiff, ↓reduceIte, reduceCtorEq, Int.reduceToNat, Int.reduceLE, Int.reduceLT, Nat.reduceLeDiff, Nat.reduceAdd, Nat.reduceMul, Int.reduceBNe, Int.reduceBEq, Int.cast_ofNat_Int, decide_true, decide_false, ne_eq, eq_self, implies_true, dc19_r0, dc19_r1, dc19_r2, dc19_r3, dc19_r4, dc19_r5, dc19_r6, dc19_r7, dc19_r8, dc19_r9, dc19_r10, dc19_r11, dc19_r12, dc19_r13, dc19, DL.dI, DL.dB, DL.dS, d1]
        exact fin _ (no (by simp only [d1, Bool.false_and])) _
    · have c1 : decide ((k : Int) < (l.length : Int)) = false := decide_eq_false (by omega)
      simp -dsimp -implicitDefEqProofs (maxSteps := 1000000) (disch := first | omega | (simp only [List.length_append, List.length_cons, List.length_nil]; omega) | (intros; simp only [ne_eq, reduceCtorEq, not_false_eq_true] <;> fail)) only [DL.R, Nat.reduceEqDiff, ↓reduceIte, reduceCtorEq, Int.reduceToNat, Int.reduceLE, Int.reduceLT, Nat.reduceLeDiff, Nat.reduceAdd, Nat.reduceMul, Int.reduceBNe, Int.reduceBEq, Int.cast_ofNat_Int, decide_true, decide_false, ne_eq, eq_self, implies_true, dc19_r0, dc19_r1, dc19_r2, dc19_r3, dc19_r4, dc19_r5, dc19_r6, dc19_r7, dc19_r8, dc19_r9, dc19_r10, dc19_r11, dc19_r12, dc19_r13, dc19, DL.dI, DL.dB, DL.dS, h0, h7, h8, ht, c1, hlen]
      refine fin _ ?_ _
      rw [validF_end (fun j hj h => hP j (by omega) h), Bool.eq_iff_iff]; simp; omega
end Go.Proofs.Tryd
