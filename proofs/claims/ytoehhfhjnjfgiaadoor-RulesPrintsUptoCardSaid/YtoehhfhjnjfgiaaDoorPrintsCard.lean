/- The card of RulesPrints, for inputs of bulk at most 1048576 : for all lists of numbers, places and strings, the function returns true and leaves its arguments as they were.
   Conditions: the arguments and the package-level variables read together hold at most 1048576 values and letters; the listed package-level variables start as the program's text lays them (tied by the card, over the pruned copy of the project). -/
import Derived.LaidSub
import Derived.LaidHandle
import Derived.LaidMore
import Derived.Lib.LaidTab
import Derived.OpenShut
import Derived.Carry
import Derived.ChangeSlices
import Derived.ChangeMaps5
import Derived.ChangeSame
import Derived.RowKitVeiled
import Derived.Test.YtoehhfhjnjfgiaaDoorRows
import Derived.WideKeyArgs
import Derived.Test.YtoehhfhjnjfgiaaDoorCards
import Derived.Test.YtoehhfhjnjfgiaaDoorTie
import Derived.ProofKit
import Derived.Deep.DeepHandedRow
import Derived.Deep.DeepWitnessRowRef
import Derived.Test.YtoehhfhjnjfgiaaDoorPrintsI
set_option maxRecDepth 100000
set_option maxHeartbeats 2000000
set_option linter.unusedSimpArgs false
set_option linter.unusedVariables false
namespace Go.Proofs.Tryd
open Go Go.DL
variable {G : Nat → D} {H : List O} {Q : D → List O → Prop}
def pTxt (who : List Int) (i : Nat) : List UInt8 := if i = 0 then [32] else whoTxt who i
theorem pTxt_len (who : List Int) (i : Nat) : (pTxt who i).length ≤ 3 * i + 1 := by
  unfold pTxt; split
  · simp
  · have := whoTxt_len who i; omega
theorem BldAt.lt {K : List O} {t : List UInt8} (h : BldAt H K t) : H.length < K.length := by
  rcases h with ⟨_, Gs, rfl⟩ | ⟨_, Gs, j, ver, _, rfl⟩ <;> simp
theorem print_spec (hE : Env G) (l : List Rule) (hl : l.length ≤ 1099511627776) (hr : ∀ r ∈ l, ruleLen r) (hQ : Q (dS (str (printF l))) H) : CallA Tryd.prog G 21 [.sl (rulesD l)] H Q := by
  refine CallA.drop (s21 (Nat.le_of_ble_eq_true rfl) ?_)
  simp -dsimp -implicitDefEqProofs (maxSteps := 1000000) (disch := first | omega | (simp only [List.length_append, List.length_cons, List.length_nil]; omega) | (intros; simp only [ne_eq, reduceCtorEq, not_false_eq_true] <;> fail)) only [DL.R, Nat.reduceEqDiff, ↓reduceIte, reduceCtorEq, Int.reduceToNat, Int.reduceLE, Int.reduceLT, Nat.reduceLeDiff, Nat.reduceAdd, Nat.reduceMul, Int.reduceBNe, Int.reduceBEq, Int.cast_ofNat_Int, decide_true, decide_false, ne_eq, eq_self, implies_true, dc21_r0, dc21_r1, dc21_r2, dc21_r3, dc21_r4, dc21_r5, dc21_r6, dc21_r7, dc21_r8, dc21_r9, dc21_r10, dc21_r11, dc21_r12, dc21_r13, dc21_r14, dc21_r15, dc21_r16, dc21_r17, dc21_r18, dc21_r19, dc21_r20, dc21, DL.dI, DL.dB, DL.dS]
  refine valid_spec hE l hl hr ?_
  by_cases hv : validF l = true
  · obtain ⟨hfine, h64⟩ := validF_fine hv
    have hp : printF l = rulesTxt l := by unfold printF; rw [if_pos hv]
    rw [hp] at hQ
    have hlen : (rulesD l).length = l.length := rules_len l
    simp -dsimp -implicitDefEqProofs (maxSteps := 1000000) (disch := first | omega | (simp only [List.length_append, List.length_cons, List.length_nil]; omega) | (intros; simp only [ne_eq, reduceCtorEq, not_false_eq_true] <;> fail)) only [DL.R, Nat.reduceEqDiff, ↓reduceIte, reduceCtorEq, Int.reduceToNat, Int.reduceLE, Int.reduceLT, Nat.reduceLeDiff, Nat.reduceAdd, Nat.reduceMul, Int.reduceBNe, Int.reduceBEq, Int.cast_ofNat_Int, decide_true, decide_false, ne_eq, eq_self, implies_true, dc21_r0, dc21_r1, dc21_r2, dc21_r3, dc21_r4, dc21_r5, dc21_r6, dc21_r7, dc21_r8, dc21_r9, dc21_r10, dc21_r11, dc21_r12, dc21_r13, dc21_r14, dc21_r15, dc21_r16, dc21_r17, dc21_r18, dc21_r19, dc21_r20, dc21, DL.dI, DL.dB, DL.dS, hv]
    refine for_i 13 l.length (fun k s' K => BldAt H K (rulesTxt (l.take k)) ∧ s' 3 = .ptr H.length 0 ∧ s' 11 = .sl (rulesD l) ∧ s' 12 = dI l.length) ?_ ?_ ?_
    · simp -dsimp -implicitDefEqProofs (maxSteps := 1000000) (disch := first | omega | (simp only [List.length_append, List.length_cons, List.length_nil]; omega) | (intros; simp only [ne_eq, reduceCtorEq, not_false_eq_true] <;> fail)) only [DL.R, Nat.reduceEqDiff, ↓reduceIte, reduceCtorEq, Int.reduceToNat, Int.reduceLE, Int.reduceLT, Nat.reduceLeDiff, Nat.reduceAdd, Nat.reduceMul, Int.reduceBNe, Int.reduceBEq, Int.cast_ofNat_Int, decide_true, decide_false, ne_eq, eq_self, implies_true, DL.dI, DL.dB, DL.dS]
    · simp -dsimp -implicitDefEqProofs (maxSteps := 1000000) (disch := first | omega | (simp only [List.length_append, List.length_cons, List.length_nil]; omega) | (intros; simp only [ne_eq, reduceCtorEq, not_false_eq_true] <;> fail)) only [DL.R, Nat.reduceEqDiff, ↓reduceIte, reduceCtorEq, Int.reduceToNat, Int.reduceLE, Int.reduceLT, Nat.reduceLeDiff, Nat.reduceAdd, Nat.reduceMul, Int.reduceBNe, Int.reduceBEq, Int.cast_ofNat_Int, decide_true, decide_false, ne_eq, eq_self, implies_true, DL.dI, DL.dB, DL.dS, hlen]
      exact .inl ⟨rfl, [], rfl⟩
    · rintro k s' K hk ht ⟨hB, h3, h11, h12⟩
      have h11' : s' 11 = .sl (l.map ruleD) := h11
      by_cases c : k < l.length
      · have c1 : decide ((k : Int) < (l.length : Int)) = true := decide_eq_true (by omega)
        obtain ⟨q, hq⟩ : ∃ q, l[k] = q := ⟨_, rfl⟩
        have hf := hfine _ (List.getElem_mem c)
        rw [hq] at hf
        have htk : l.take (k + 1) = l.take k ++ [q] := by rw [List.take_succ_eq_append_getElem c, hq]
        have htl := rulesTxt_len (l := l.take k) fun r hr' => hfine r (List.mem_of_mem_take hr')
        rw [List.length_take] at htl
        obtain ⟨T, hT⟩ : ∃ T, rulesTxt (l.take k) = T := ⟨_, rfl⟩
        rw [hT] at hB htl
        have hhead := ruleHead_len hf
        have hwl := whats_len hf.what
        have hn9 := whoOk_len hf.who
        have hml : (bl8 q.mod).length ≤ 16 := by
          rcases hf.mod with z | z
          · rw [z]; simp
          · exact (isWord_len z).1
        have hn1 := hf.n1
        have hn2 := hf.n2
        have hhd : ruleHead q = bl8 q.what ++ ((if bl8 q.mod = [] then [] else [32, 105, 110, 32] ++ bl8 q.mod) ++ ([58, 32] ++ (digitS q.n ++ [32, 111, 102]))) := rfl
        have hatw : ∀ i, i < q.who.length → 0 ≤ q.who.getD i 0 ∧ q.who.getD i 0 ≤ 7 := fun i hi => ⟨(whoOk_at hf.who hi).1, (whoOk_at hf.who hi).2.1⟩
        have htx : ruleTxt q = ruleHead q ++ (whoTxt q.who q.who.length ++ [10]) := rfl
        obtain ⟨qw, qm, qn, qwho⟩ := q
        simp only at hwl hn9 hml hn1 hn2 hhd hatw htx
        obtain ⟨wl, hwl'⟩ : ∃ wl, bl8 qw = wl := ⟨_, rfl⟩
        obtain ⟨ml, hml'⟩ : ∃ ml, bl8 qm = ml := ⟨_, rfl⟩
        have ew : qw = str wl := by rw [← hwl', str_bl8]
        have em : qm = str ml := by rw [← hml', str_bl8]
        subst ew em
        rw [bl8_str] at hwl hml
        rw [bl8_str, bl8_str] at hhd
        have hints : ints qwho = qwho.map dI := rfl
        have hil : (ints qwho).length = qwho.length := by simp [ints]
        obtain ⟨HD, hHD⟩ : ∃ HD, ruleHead ⟨str wl, str ml, qn, qwho⟩ = HD := ⟨_, rfl⟩
        rw [hHD] at hhd hhead htx
        have hdig : Lib.itoa qn = digitS qn := itoa_dig (by omega) (by omega)
        have hKl := hB.lt
        have hKne : K.length ≠ H.length := by omega
        have hd1 : (digitS qn).length = 1 := rfl
        simp -dsimp -implicitDefEqProofs (maxSteps := 1000000) (disch := first | omega | (simp only [List.length_append, List.length_cons, List.length_nil]; omega) | (intros; simp only [ne_eq, reduceCtorEq, not_false_eq_true] <;> fail)) only [DL.R, Nat.reduceEqDiff, ↓reduceIte, reduceCtorEq, Int.reduceToNat, Int.reduceLE, Int.reduceLT, Nat.reduceLeDiff, Nat.reduceAdd, Nat.reduceMul, Int.reduceBNe, Int.reduceBEq, Int.cast_ofNat_Int, decide_true, decide_false, ne_eq, eq_self, implies_true, dc21_r0, dc21_r1, dc21_r2, dc21_r3, dc21_r4, dc21_r5, dc21_r6, dc21_r7, dc21_r8, dc21_r9, dc21_r10, dc21_r11, dc21_r12, dc21_r13, dc21_r14, dc21_r15, dc21_r16, dc21_r17, dc21_r18, dc21_r19, dc21_r20, dc21, DL.dI, DL.dB, DL.dS, h3, h11', h12, ht, c1, hq, ruleD, ruleL, DL.wrap_id]
        refine ws_spec (s := wl) (hB.push _) (by intro z; exact hwl.2 (List.append_eq_nil_iff.1 z).2) (by omega) fun K1 hB1 hl1 hf1 => ?_
        have hb1 : K1[K.length]? = some (.box 42 [dS (str wl), dS (str ml), dI qn, .sl (ints qwho)]) := hf1 _ _ _ hKne (by rw [get_own0]; rfl)
        by_cases hm0 : ml = []
        · have m0 : (ml == []) = true := by simp [hm0]
          rw [if_pos hm0] at hhd
          simp -dsimp -implicitDefEqProofs (maxSteps := 1000000) (disch := first | omega | (simp only [List.length_append, List.length_cons, List.length_nil]; omega) | (intros; simp only [ne_eq, reduceCtorEq, not_false_eq_true] <;> fail)) only [DL.R, Nat.reduceEqDiff, ↓reduceIte, reduceCtorEq, Int.reduceToNat, Int.reduceLE, Int.reduceLT, Nat.reduceLeDiff, Nat.reduceAdd, Nat.reduceMul, Int.reduceBNe, Int.reduceBEq, Int.cast_ofNat_Int, decide_true, decide_false, ne_eq, eq_self, implies_true, dc21_r0, dc21_r1, dc21_r2, dc21_r3, dc21_r4, dc21_r5, dc21_r6, dc21_r7, dc21_r8, dc21_r9, dc21_r10, dc21_r11, dc21_r12, dc21_r13, dc21_r14, dc21_r15, dc21_r16, dc21_r17, dc21_r18, dc21_r19, dc21_r20, dc21, DL.dI, DL.dB, DL.dS, h3, h11', h12, ht, hb1, m0, DL.wrap_id]
          refine itoa_call qn (by omega) (by omega) ?_
          rw [hdig]
          simp -dsimp -implicitDefEqProofs (maxSteps := 1000000) (disch := first | omega | (simp only [List.length_append, List.length_cons, List.length_nil]; omega) | (intros; simp only [ne_eq, reduceCtorEq, not_false_eq_true] <;> fail)) only [DL.R, Nat.reduceEqDiff, ↓reduceIte, reduceCtorEq, Int.reduceToNat, Int.reduceLE, Int.reduceLT, Nat.reduceLeDiff, Nat.reduceAdd, Nat.reduceMul, Int.reduceBNe, Int.reduceBEq, Int.cast_ofNat_Int, decide_true, decide_false, ne_eq, eq_self, implies_true, dc21_r0, dc21_r1, dc21_r2, dc21_r3, dc21_r4, dc21_r5, dc21_r6, dc21_r7, dc21_r8, dc21_r9, dc21_r10, dc21_r11, dc21_r12, dc21_r13, dc21_r14, dc21_r15, dc21_r16, dc21_r17, dc21_r18, dc21_r19, dc21_r20, dc21, DL.dI, DL.dB, DL.dS, h3, h11', h12, ht, hb1, sadd, hd1, DL.wrap_id]
          refine ws_spec (s := [58, 32] ++ (digitS qn ++ [32, 111, 102, 32])) hB1 (by simp) (by simp [hd1]; omega) fun K2 hB2 hl2 hf2 => ?_
          have hb2 := hf2 _ _ _ hKne hb1
          have hB2' : BldAt H K2 (T ++ (HD ++ pTxt qwho 0)) := by rw [hhd]; simpa [pTxt] using hB2
          simp -dsimp -implicitDefEqProofs (maxSteps := 1000000) (disch := first | omega | (simp only [List.length_append, List.length_cons, List.length_nil]; omega) | (intros; simp only [ne_eq, reduceCtorEq, not_false_eq_true] <;> fail)) only [DL.R, Nat.reduceEqDiff, ↓reduceIte, reduceCtorEq, Int.reduceToNat, Int.reduceLE, Int.reduceLT, Nat.reduceLeDiff, Nat.reduceAdd, Nat.reduceMul, Int.reduceBNe, Int.reduceBEq, Int.cast_ofNat_Int, decide_true, decide_false, ne_eq, eq_self, implies_true, dc21_r0, dc21_r1, dc21_r2, dc21_r3, dc21_r4, dc21_r5, dc21_r6, dc21_r7, dc21_r8, dc21_r9, dc21_r10, dc21_r11, dc21_r12, dc21_r13, dc21_r14, dc21_r15, dc21_r16, dc21_r17, dc21_r18, dc21_r19, dc21_r20, dc21, DL.dI, DL.dB, DL.dS, h3, h11', h12, ht, hb2, hil, DL.wrap_id]
          refine for_i 36 qwho.length (fun i s'' K' => BldAt H K' (T ++ (HD ++ pTxt qwho i)) ∧ s'' 3 = .ptr H.length 0 ∧ s'' 11 = .sl (rulesD l) ∧ s'' 12 = dI l.length ∧ s'' 13 = dI k ∧ s'' 34 = .sl (ints qwho) ∧ s'' 35 = dI qwho.length) ?_ ?_ ?_
          · simp -dsimp -implicitDefEqProofs (maxSteps := 1000000) (disch := first | omega | (simp only [List.length_append, List.length_cons, List.length_nil]; omega) | (intros; simp only [ne_eq, reduceCtorEq, not_false_eq_true] <;> fail)) only [DL.R, Nat.reduceEqDiff, ↓reduceIte, reduceCtorEq, Int.reduceToNat, Int.reduceLE, Int.reduceLT, Nat.reduceLeDiff, Nat.reduceAdd, Nat.reduceMul, Int.reduceBNe, Int.reduceBEq, Int.cast_ofNat_Int, decide_true, decide_false, ne_eq, eq_self, implies_true, DL.dI, DL.dB, DL.dS]
          · simp -dsimp -implicitDefEqProofs (maxSteps := 1000000) (disch := first | omega | (simp only [List.length_append, List.length_cons, List.length_nil]; omega) | (intros; simp only [ne_eq, reduceCtorEq, not_false_eq_true] <;> fail)) only [DL.R, Nat.reduceEqDiff, ↓reduceIte, reduceCtorEq, Int.reduceToNat, Int.reduceLE, Int.reduceLT, Nat.reduceLeDiff, Nat.reduceAdd, Nat.reduceMul, Int.reduceBNe, Int.reduceBEq, Int.cast_ofNat_Int, decide_true, decide_false, ne_eq, eq_self, implies_true, DL.dI, DL.dB, DL.dS, h3, h11, h12, ht]
            exact hB2'
          · rintro i s'' K' hi gt ⟨gB, g3, g11, g12, g13, g34, g35⟩
            have g34' : s'' 34 = .sl (qwho.map dI) := g34
            have hwt := whoTxt_len qwho i
            have hpt := pTxt_len qwho i
            have hts : whoTxt qwho (i + 1) = whoTxt qwho i ++ ((if i = 0 then [32] else [44, 32]) ++ digitS (qwho.getD i 0)) := whoTxt_succ _ _
            have hpn : pTxt qwho (i + 1) = whoTxt qwho (i + 1) := by unfold pTxt; rw [if_neg (by omega)]
            by_cases e : i < qwho.length
            · have f1 : decide ((i : Int) < (qwho.length : Int)) = true := decide_eq_true (by omega)
              obtain ⟨x, hx⟩ : ∃ x, qwho[i] = x := ⟨_, rfl⟩
              have hgd : qwho.getD i 0 = x := by rw [List.getD_eq_getElem?_getD, List.getElem?_eq_getElem e, Option.getD_some, hx]
              have hxb := hatw i e
              rw [hgd] at hts hxb
              have hdx : (digitS x).length = 1 := rfl
              have hdigx : Lib.itoa x = digitS x := itoa_dig (by omega) (by omega)
              by_cases i0 : i = 0
              · have j0 : decide ((i : Int) > 0) = false := decide_eq_false (by omega)
                rw [if_pos i0] at hts
                simp -dsimp -implicitDefEqProofs (maxSteps := 1000000) (disch := first | omega | (simp only [List.length_append, List.length_cons, List.length_nil]; omega) | (intros; simp only [ne_eq, reduceCtorEq, not_false_eq_true] <;> fail)) only [DL.R, Nat.reduceEqDiff, ↓reduceIte, reduceCtorEq, Int.reduceToNat, Int.reduceLE, Int.reduceLT, Nat.reduceLeDiff, Nat.reduceAdd, Nat.reduceMul, Int.reduceBNe, Int.reduceBEq, Int.cast_ofNat_Int, decide_true, decide_false, ne_eq, eq_self, implies_true, dc21_r0, dc21_r1, dc21_r2, dc21_r3, dc21_r4, dc21_r5, dc21_r6, dc21_r7, dc21_r8, dc21_r9, dc21_r10, dc21_r11, dc21_r12, dc21_r13, dc21_r14, dc21_r15, dc21_r16, dc21_r17, dc21_r18, dc21_r19, dc21_r20, dc21, DL.dI, DL.dB, DL.dS, g3, g11, g12, g13, g34', g35, gt, f1, hx, j0, DL.wrap_id]
                refine itoa_call x (by omega) (by omega) ?_
                rw [hdigx]
                simp -dsimp -implicitDefEqProofs (maxSteps := 1000000) (disch := first | omega | (simp only [List.length_append, List.length_cons, List.length_nil]; omega) | (intros; simp only [ne_eq, reduceCtorEq, not_false_eq_true] <;> fail)) only [DL.R, Nat.reduceEqDiff, ↓reduceIte, reduceCtorEq, Int.reduceToNat, Int.reduceLE, Int.reduceLT, Nat.reduceLeDiff, Nat.reduceAdd, Nat.reduceMul, Int.reduceBNe, Int.reduceBEq, Int.cast_ofNat_Int, decide_true, decide_false, ne_eq, eq_self, implies_true, dc21_r0, dc21_r1, dc21_r2, dc21_r3, dc21_r4, dc21_r5, dc21_r6, dc21_r7, dc21_r8, dc21_r9, dc21_r10, dc21_r11, dc21_r12, dc21_r13, dc21_r14, dc21_r15, dc21_r16, dc21_r17, dc21_r18, dc21_r19, dc21_r20, dc21, DL.dI, DL.dB, DL.dS, g3, g11, g12, g13, g34', g35, gt, DL.wrap_id]
                refine ws_spec (s := digitS x) gB (by simp [digitS]) (by simp [hdx]; omega) fun K3 hB3 hl3 hf3 => ?_
                have hB3' : BldAt H K3 (T ++ (HD ++ pTxt qwho (i + 1))) := by
                  rw [hpn, hts]; subst i0; simpa [pTxt, whoTxt] using hB3
                simp -dsimp -implicitDefEqProofs (maxSteps := 1000000) (disch := first | omega | (simp only [List.length_append, List.length_cons, List.length_nil]; omega) | (intros; simp only [ne_eq, reduceCtorEq, not_false_eq_true] <;> fail)) only [DL.R, Nat.reduceEqDiff, ↓reduceIte, reduceCtorEq, Int.reduceToNat, Int.reduceLE, Int.reduceLT, Nat.reduceLeDiff, Nat.reduceAdd, Nat.reduceMul, Int.reduceBNe, Int.reduceBEq, Int.cast_ofNat_Int, decide_true, decide_false, ne_eq, eq_self, implies_true, dc21_r0, dc21_r1, dc21_r2, dc21_r3, dc21_r4, dc21_r5, dc21_r6, dc21_r7, dc21_r8, dc21_r9, dc21_r10, dc21_r11, dc21_r12, dc21_r13, dc21_r14, dc21_r15, dc21_r16, dc21_r17, dc21_r18, dc21_r19, dc21_r20, dc21, DL.dI, DL.dB, DL.dS, g3, g11, g12, g13, g34', g35, gt, DL.wrap_id]
                exact ⟨e, hB3', rfl⟩
              · have j0 : decide ((i : Int) > 0) = true := decide_eq_true (by omega)
                rw [if_neg i0] at hts
                simp -dsimp -implicitDefEqProofs (maxSteps := 1000000) (disch := first | omega | (simp only [List.length_append, List.length_cons, List.length_nil]; omega) | (intros; simp only [ne_eq, reduceCtorEq, not_false_eq_true] <;> fail)) only [DL.R, Nat.reduceEqDiff, ↓reduceIte, reduceCtorEq, Int.reduceToNat, Int.reduceLE, Int.reduceLT, Nat.reduceLeDiff, Nat.reduceAdd, Nat.reduceMul, Int.reduceBNe, Int.reduceBEq, Int.cast_ofNat_Int, decide_true, decide_false, ne_eq, eq_self, implies_true, dc21_r0, dc21_r1, dc21_r2, dc21_r3, dc21_r4, dc21_r5, dc21_r6, dc21_r7, dc21_r8, dc21_r9, dc21_r10, dc21_r11, dc21_r12, dc21_r13, dc21_r14, dc21_r15, dc21_r16, dc21_r17, dc21_r18, dc21_r19, dc21_r20, dc21, DL.dI, DL.dB, DL.dS, g3, g11, g12, g13, g34', g35, gt, f1, hx, j0, DL.wrap_id]
                refine ws_spec (s := [44, 32]) gB (by simp) (by simp; omega) fun K3 hB3 hl3 hf3 => ?_
                simp -dsimp -implicitDefEqProofs (maxSteps := 1000000) (disch := first | omega | (simp only [List.length_append, List.length_cons, List.length_nil]; omega) | (intros; simp only [ne_eq, reduceCtorEq, not_false_eq_true] <;> fail)) only [DL.R, Nat.reduceEqDiff, ↓reduceIte, reduceCtorEq, Int.reduceToNat, Int.reduceLE, Int.reduceLT, Nat.reduceLeDiff, Nat.reduceAdd, Nat.reduceMul, Int.reduceBNe, Int.reduceBEq, Int.cast_ofNat_Int, decide_true, decide_false, ne_eq, eq_self, implies_true, dc21_r0, dc21_r1, dc21_r2, dc21_r3, dc21_r4, dc21_r5, dc21_r6, dc21_r7, dc21_r8, dc21_r9, dc21_r10, dc21_r11, dc21_r12, dc21_r13, dc21_r14, dc21_r15, dc21_r16, dc21_r17, dc21_r18, dc21_r19, dc21_r20, dc21, DL.dI, DL.dB, DL.dS, g3, g11, g12, g13, g34', g35, gt, DL.wrap_id]
                refine itoa_call x (by omega) (by omega) ?_
                rw [hdigx]
                simp -dsimp -implicitDefEqProofs (maxSteps := 1000000) (disch := first | omega | (simp only [List.length_append, List.length_cons, List.length_nil]; omega) | (intros; simp only [ne_eq, reduceCtorEq, not_false_eq_true] <;> fail)) only [DL.R, Nat.reduceEqDiff, ↓reduceIte, reduceCtorEq, Int.reduceToNat, Int.reduceLE, Int.reduceLT, Nat.reduceLeDiff, Nat.reduceAdd, Nat.reduceMul, Int.reduceBNe, Int.reduceBEq, Int.cast_ofNat_Int, decide_true, decide_false, ne_eq, eq_self, implies_true, dc21_r0, dc21_r1, dc21_r2, dc21_r3, dc21_r4, dc21_r5, dc21_r6, dc21_r7, dc21_r8, dc21_r9, dc21_r10, dc21_r11, dc21_r12, dc21_r13, dc21_r14, dc21_r15, dc21_r16, dc21_r17, dc21_r18, dc21_r19, dc21_r20, dc21, DL.dI, DL.dB, DL.dS, g3, g11, g12, g13, g34', g35, gt, DL.wrap_id]
                refine ws_spec (s := digitS x) hB3 (by simp [digitS]) (by simp [hdx]; omega) fun K4 hB4 hl4 hf4 => ?_
                have hB4' : BldAt H K4 (T ++ (HD ++ pTxt qwho (i + 1))) := by
                  rw [hpn, hts]
                  have hpi : pTxt qwho i = whoTxt qwho i := by unfold pTxt; rw [if_neg i0]
                  rw [hpi] at hB4
                  simpa using hB4
                simp -dsimp -implicitDefEqProofs (maxSteps := 1000000) (disch := first | omega | (simp only [List.length_append, List.length_cons, List.length_nil]; omega) | (intros; simp only [ne_eq, reduceCtorEq, not_false_eq_true] <;> fail)) only [DL.R, Nat.reduceEqDiff, ↓reduceIte, reduceCtorEq, Int.reduceToNat, Int.reduceLE, Int.reduceLT, Nat.reduceLeDiff, Nat.reduceAdd, Nat.reduceMul, Int.reduceBNe, Int.reduceBEq, Int.cast_ofNat_Int, decide_true, decide_false, ne_eq, eq_self, implies_true, dc21_r0, dc21_r1, dc21_r2, dc21_r3, dc21_r4, dc21_r5, dc21_r6, dc21_r7, dc21_r8, dc21_r9, dc21_r10, dc21_r11, dc21_r12, dc21_r13, dc21_r14, dc21_r15, dc21_r16, dc21_r17, dc21_r18, dc21_r19, dc21_r20, dc21, DL.dI, DL.dB, DL.dS, g3, g11, g12, g13, g34', g35, gt, DL.wrap_id]
                exact ⟨e, hB4', rfl⟩
            · have f1 : decide ((i : Int) < (qwho.length : Int)) = false := decide_eq_false (by omega)
              have hie : i = qwho.length := by omega
              have hpi : pTxt qwho i = whoTxt qwho qwho.length := by rw [hie]; unfold pTxt; rw [if_neg (by omega)]
              rw [hpi] at gB
              have hwt2 := whoTxt_len qwho qwho.length
              simp -dsimp -implicitDefEqProofs (maxSteps := 1000000) (disch := first | omega | (simp only [List.length_append, List.length_cons, List.length_nil]; omega) | (intros; simp only [ne_eq, reduceCtorEq, not_false_eq_true] <;> fail)) only [DL.R, Nat.reduceEqDiff, ↓reduceIte, reduceCtorEq, Int.reduceToNat, Int.reduceLE, Int.reduceLT, Nat.reduceLeDiff, Nat.reduceAdd, Nat.reduceMul, Int.reduceBNe, Int.reduceBEq, Int.cast_ofNat_Int, decide_true, decide_false, ne_eq, eq_self, implies_true, dc21_r0, dc21_r1, dc21_r2, dc21_r3, dc21_r4, dc21_r5, dc21_r6, dc21_r7, dc21_r8, dc21_r9, dc21_r10, dc21_r11, dc21_r12, dc21_r13, dc21_r14, dc21_r15, dc21_r16, dc21_r17, dc21_r18, dc21_r19, dc21_r20, dc21, DL.dI, DL.dB, DL.dS, g3, g11, g12, g13, g34, g35, gt, f1, DL.wrap_id]
              refine ws_spec (s := [10]) gB (by simp) (by simp; omega) fun K3 hB3 hl3 hf3 => ?_
              have hB3' : BldAt H K3 (rulesTxt (l.take (k + 1))) := by
                rw [htk, rulesTxt_snoc, hT, htx]; simpa using hB3
              simp -dsimp -implicitDefEqProofs (maxSteps := 1000000) (disch := first | omega | (simp only [List.length_append, List.length_cons, List.length_nil]; omega) | (intros; simp only [ne_eq, reduceCtorEq, not_false_eq_true] <;> fail)) only [DL.R, Nat.reduceEqDiff, ↓reduceIte, reduceCtorEq, Int.reduceToNat, Int.reduceLE, Int.reduceLT, Nat.reduceLeDiff, Nat.reduceAdd, Nat.reduceMul, Int.reduceBNe, Int.reduceBEq, Int.cast_ofNat_Int, decide_true, decide_false, ne_eq, eq_self, implies_true, dc21_r0, dc21_r1, dc21_r2, dc21_r3, dc21_r4, dc21_r5, dc21_r6, dc21_r7, dc21_r8, dc21_r9, dc21_r10, dc21_r11, dc21_r12, dc21_r13, dc21_r14, dc21_r15, dc21_r16, dc21_r17, dc21_r18, dc21_r19, dc21_r20, dc21, DL.dI, DL.dB, DL.dS, g3, g11, g12, g13, g34, g35, gt, DL.wrap_id]
              exact ⟨c, hB3'⟩
        · have m0 : (ml == []) = false := by simp [hm0]
          rw [if_neg hm0] at hhd
          simp -dsimp -implicitDefEqProofs (maxSteps := 1000000) (disch := first | omega | (simp only [List.length_append, List.length_cons, List.length_nil]; omega) | (intros; simp only [ne_eq, reduceCtorEq, not_false_eq_true] <;> fail)) only [DL.R, Nat.reduceEqDiff, ↓reduceIte, reduceCtorEq, Int.reduceToNat, Int.reduceLE, Int.reduceLT, Nat.reduceLeDiff, Nat.reduceAdd, Nat.reduceMul, Int.reduceBNe, Int.reduceBEq, Int.cast_ofNat_Int, decide_true, decide_false, ne_eq, eq_self, implies_true, dc21_r0, dc21_r1, dc21_r2, dc21_r3, dc21_r4, dc21_r5, dc21_r6, dc21_r7, dc21_r8, dc21_r9, dc21_r10, dc21_r11, dc21_r12, dc21_r13, dc21_r14, dc21_r15, dc21_r16, dc21_r17, dc21_r18, dc21_r19, dc21_r20, dc21, DL.dI, DL.dB, DL.dS, h3, h11', h12, ht, hb1, m0, sadd, DL.wrap_id]
          refine ws_spec (s := [32, 105, 110, 32] ++ ml) hB1 (by simp) (by simp; omega) fun K1b hB1b hl1b hf1b => ?_
          have hb1b := hf1b _ _ _ hKne hb1
          simp -dsimp -implicitDefEqProofs (maxSteps := 1000000) (disch := first | omega | (simp only [List.length_append, List.length_cons, List.length_nil]; omega) | (intros; simp only [ne_eq, reduceCtorEq, not_false_eq_true] <;> fail)) only [DL.R, Nat.reduceEqDiff, ↓reduceIte, reduceCtorEq, Int.reduceToNat, Int.reduceLE, Int.reduceLT, Nat.reduceLeDiff, Nat.reduceAdd, Nat.reduceMul, Int.reduceBNe, Int.reduceBEq, Int.cast_ofNat_Int, decide_true, decide_false, ne_eq, eq_self, implies_true, dc21_r0, dc21_r1, dc21_r2, dc21_r3, dc21_r4, dc21_r5, dc21_r6, dc21_r7, dc21_r8, dc21_r9, dc21_r10, dc21_r11, dc21_r12, dc21_r13, dc21_r14, dc21_r15, dc21_r16, dc21_r17, dc21_r18, dc21_r19, dc21_r20, dc21, DL.dI, DL.dB, DL.dS, h3, h11', h12, ht, hb1b, m0, DL.wrap_id]
          refine itoa_call qn (by omega) (by omega) ?_
          rw [hdig]
          simp -dsimp -implicitDefEqProofs (maxSteps := 1000000) (disch := first | omega | (simp only [List.length_append, List.length_cons, List.length_nil]; omega) | (intros; simp only [ne_eq, reduceCtorEq, not_false_eq_true] <;> fail)) only [DL.R, Nat.reduceEqDiff, ↓reduceIte, reduceCtorEq, Int.reduceToNat, Int.reduceLE, Int.reduceLT, Nat.reduceLeDiff, Nat.reduceAdd, Nat.reduceMul, Int.reduceBNe, Int.reduceBEq, Int.cast_ofNat_Int, decide_true, decide_false, ne_eq, eq_self, implies_true, dc21_r0, dc21_r1, dc21_r2, dc21_r3, dc21_r4, dc21_r5, dc21_r6, dc21_r7, dc21_r8, dc21_r9, dc21_r10, dc21_r11, dc21_r12, dc21_r13, dc21_r14, dc21_r15, dc21_r16, dc21_r17, dc21_r18, dc21_r19, dc21_r20, dc21, DL.dI, DL.dB, DL.dS, h3, h11', h12, ht, hb1b, sadd, hd1, DL.wrap_id]
          refine ws_spec (s := [58, 32] ++ (digitS qn ++ [32, 111, 102, 32])) hB1b (by simp) (by simp [hd1]; omega) fun K2 hB2 hl2 hf2 => ?_
          have hb2 := hf2 _ _ _ hKne hb1b
          have hB2' : BldAt H K2 (T ++ (HD ++ pTxt qwho 0)) := by rw [hhd]; simpa [pTxt] using hB2
          simp -dsimp -implicitDefEqProofs (maxSteps := 1000000) (disch := first | omega | (simp only [List.length_append, List.length_cons, List.length_nil]; omega) | (intros; simp only [ne_eq, reduceCtorEq, not_false_eq_true] <;> fail)) only [DL.R, Nat.reduceEqDiff, ↓reduceIte, reduceCtorEq, Int.reduceToNat, Int.reduceLE, Int.reduceLT, Nat.reduceLeDiff, Nat.reduceAdd, Nat.reduceMul, Int.reduceBNe, Int.reduceBEq, Int.cast_ofNat_Int, decide_true, decide_false, ne_eq, eq_self, implies_true, dc21_r0, dc21_r1, dc21_r2, dc21_r3, dc21_r4, dc21_r5, dc21_r6, dc21_r7, dc21_r8, dc21_r9, dc21_r10, dc21_r11, dc21_r12, dc21_r13, dc21_r14, dc21_r15, dc21_r16, dc21_r17, dc21_r18, dc21_r19, dc21_r20, dc21, DL.dI, DL.dB, DL.dS, h3, h11', h12, ht, hb2, hil, DL.wrap_id]
          refine for_i 36 qwho.length (fun i s'' K' => BldAt H K' (T ++ (HD ++ pTxt qwho i)) ∧ s'' 3 = .ptr H.length 0 ∧ s'' 11 = .sl (rulesD l) ∧ s'' 12 = dI l.length ∧ s'' 13 = dI k ∧ s'' 34 = .sl (ints qwho) ∧ s'' 35 = dI qwho.length) ?_ ?_ ?_
          · simp -dsimp -implicitDefEqProofs (maxSteps := 1000000) (disch := first | omega | (simp only [List.length_append, List.length_cons, List.length_nil]; omega) | (intros; simp only [ne_eq, reduceCtorEq, not_false_eq_true] <;> fail)) only [DL.R, Nat.reduceEqDiff, ↓reduceIte, reduceCtorEq, Int.reduceToNat, Int.reduceLE, Int.reduceLT, Nat.reduceLeDiff, Nat.reduceAdd, Nat.reduceMul, Int.reduceBNe, Int.reduceBEq, Int.cast_ofNat_Int, decide_true, decide_false, ne_eq, eq_self, implies_true, DL.dI, DL.dB, DL.dS]
          · simp -dsimp -implicitDefEqProofs (maxSteps := 1000000) (disch := first | omega | (simp only [List.length_append, List.length_cons, List.length_nil]; omega) | (intros; simp only [ne_eq, reduceCtorEq, not_false_eq_true] <;> fail)) only [DL.R, Nat.reduceEqDiff, ↓reduceIte, reduceCtorEq, Int.reduceToNat, Int.reduceLE, Int.reduceLT, Nat.reduceLeDiff, Nat.reduceAdd, Nat.reduceMul, Int.reduceBNe, Int.reduceBEq, Int.cast_ofNat_Int, decide_true, decide_false, ne_eq, eq_self, implies_true, DL.dI, DL.dB, DL.dS, h3, h11, h12, ht]
            exact hB2'
          · rintro i s'' K' hi gt ⟨gB, g3, g11, g12, g13, g34, g35⟩
            have g34' : s'' 34 = .sl (qwho.map dI) := g34
            have hwt := whoTxt_len qwho i
            have hpt := pTxt_len qwho i
            have hts : whoTxt qwho (i + 1) = whoTxt qwho i ++ ((if i = 0 then [32] else [44, 32]) ++ digitS (qwho.getD i 0)) := whoTxt_succ _ _
            have hpn : pTxt qwho (i + 1) = whoTxt qwho (i + 1) := by unfold pTxt; rw [if_neg (by omega)]
            by_cases e : i < qwho.length
            · have f1 : decide ((i : Int) < (qwho.length : Int)) = true := decide_eq_true (by omega)
              obtain ⟨x, hx⟩ : ∃ x, qwho[i] = x := ⟨_, rfl⟩
              have hgd : qwho.getD i 0 = x := by rw [List.getD_eq_getElem?_getD, List.getElem?_eq_getElem e, Option.getD_some, hx]
              have hxb := hatw i e
              rw [hgd] at hts hxb
              have hdx : (digitS x).length = 1 := rfl
              have hdigx : Lib.itoa x = digitS x := itoa_dig (by omega) (by omega)
              by_cases i0 : i = 0
              · have j0 : decide ((i : Int) > 0) = false := decide_eq_false (by omega)
                rw [if_pos i0] at hts
                simp -dsimp -implicitDefEqProofs (maxSteps := 1000000) (disch := first | omega | (simp only [List.length_append, List.length_cons, List.length_nil]; omega) | (intros; simp only [ne_eq, reduceCtorEq, not_false_eq_true] <;> fail)) only [DL.R, Nat.reduceEqDiff, ↓reduceIte, reduceCtorEq, Int.reduceToNat, Int.reduceLE, Int.reduceLT, Nat.reduceLeDiff, Nat.reduceAdd, Nat.reduceMul, Int.reduceBNe, Int.reduceBEq, Int.cast_ofNat_Int, decide_true, decide_false, ne_eq, eq_self, implies_true, dc21_r0, dc21_r1, dc21_r2, dc21_r3, dc21_r4, dc21_r5, dc21_r6, dc21_r7, dc21_r8, dc21_r9, dc21_r10, dc21_r11, dc21_r12, dc21_r13, dc21_r14, dc21_r15, dc21_r16, dc21_r17, dc21_r18, dc21_r19, dc21_r20, dc21, DL.dI, DL.dB, DL.dS, g3, g11, g12, g13, g34', g35, gt, f1, hx, j0, DL.wrap_id]
                refine itoa_call x (by omega) (by omega) ?_
                rw [hdigx]
                simp -dsimp -implicitDefEqProofs (maxSteps := 1000000) (disch := first | omega | (simp only [List.length_append, List.length_cons, List.length_nil]; omega) | (intros; simp only [ne_eq, reduceCtorEq, not_false_eq_true] <;> fail)) only [DL.R, Nat.reduceEqDiff, ↓reduceIte, reduceCtorEq, Int.reduceToNat, Int.reduceLE, Int.reduceLT, Nat.reduceLeDiff, Nat.reduceAdd, Nat.reduceMul, Int.reduceBNe, Int.reduceBEq, Int.cast_ofNat_Int, decide_true, decide_false, ne_eq, eq_self, implies_true, dc21_r0, dc21_r1, dc21_r2, dc21_r3, dc21_r4, dc21_r5, dc21_r6, dc21_r7, dc21_r8, dc21_r9, dc21_r10, dc21_r11, dc21_r12, dc21_r13, dc21_r14, dc21_r15, dc21_r16, dc21_r17, dc21_r18, dc21_r19, dc21_r20, dc21, DL.dI, DL.dB, DL.dS, g3, g11, g12, g13, g34', g35, gt, DL.wrap_id]
                refine ws_spec (s := digitS x) gB (by simp [digitS]) (by simp [hdx]; omega) fun K3 hB3 hl3 hf3 => ?_
                have hB3' : BldAt H K3 (T ++ (HD ++ pTxt qwho (i + 1))) := by
                  rw [hpn, hts]; subst i0; simpa [pTxt, whoTxt] using hB3
                simp -dsimp -implicitDefEqProofs (maxSteps := 1000000) (disch := first | omega | (simp only [List.length_append, List.length_cons, List.length_nil]; omega) | (intros; simp only [ne_eq, reduceCtorEq, not_false_eq_true] <;> fail)) only [DL.R, Nat.reduceEqDiff, ↓reduceIte, reduceCtorEq, Int.reduceToNat, Int.reduceLE, Int.reduceLT, Nat.reduceLeDiff, Nat.reduceAdd, Nat.reduceMul, Int.reduceBNe, Int.reduceBEq, Int.cast_ofNat_Int, decide_true, decide_false, ne_eq, eq_self, implies_true, dc21_r0, dc21_r1, dc21_r2, dc21_r3, dc21_r4, dc21_r5, dc21_r6, dc21_r7, dc21_r8, dc21_r9, dc21_r10, dc21_r11, dc21_r12, dc21_r13, dc21_r14, dc21_r15, dc21_r16, dc21_r17, dc21_r18, dc21_r19, dc21_r20, dc21, DL.dI, DL.dB, DL.dS, g3, g11, g12, g13, g34', g35, gt, DL.wrap_id]
                exact ⟨e, hB3', rfl⟩
              · have j0 : decide ((i : Int) > 0) = true := decide_eq_true (by omega)
                rw [if_neg i0] at hts
                simp -dsimp -implicitDefEqProofs (maxSteps := 1000000) (disch := first | omega | (simp only [List.length_append, List.length_cons, List.length_nil]; omega) | (intros; simp only [ne_eq, reduceCtorEq, not_false_eq_true] <;> fail)) only [DL.R, Nat.reduceEqDiff, ↓reduceIte, reduceCtorEq, Int.reduceToNat, Int.reduceLE, Int.reduceLT, Nat.reduceLeDiff, Nat.reduceAdd, Nat.reduceMul, Int.reduceBNe, Int.reduceBEq, Int.cast_ofNat_Int, decide_true, decide_false, ne_eq, eq_self, implies_true, dc21_r0, dc21_r1, dc21_r2, dc21_r3, dc21_r4, dc21_r5, dc21_r6, dc21_r7, dc21_r8, dc21_r9, dc21_r10, dc21_r11, dc21_r12, dc21_r13, dc21_r14, dc21_r15, dc21_r16, dc21_r17, dc21_r18, dc21_r19, dc21_r20, dc21, DL.dI, DL.dB, DL.dS, g3, g11, g12, g13, g34', g35, gt, f1, hx, j0, DL.wrap_id]
                refine ws_spec (s := [44, 32]) gB (by simp) (by simp; omega) fun K3 hB3 hl3 hf3 => ?_
                simp -dsimp -implicitDefEqProofs (maxSteps := 1000000) (disch := first | omega | (simp only [List.length_append, List.length_cons, List.length_nil]; omega) | (intros; simp only [ne_eq, reduceCtorEq, not_false_eq_true] <;> fail)) only [DL.R, Nat.reduceEqDiff, ↓reduceIte, reduceCtorEq, Int.reduceToNat, Int.reduceLE, Int.reduceLT, Nat.reduceLeDiff, Nat.reduceAdd, Nat.reduceMul, Int.reduceBNe, Int.reduceBEq, Int.cast_ofNat_Int, decide_true, decide_false, ne_eq, eq_self, implies_true, dc21_r0, dc21_r1, dc21_r2, dc21_r3, dc21_r4, dc21_r5, dc21_r6, dc21_r7, dc21_r8, dc21_r9, dc21_r10, dc21_r11, dc21_r12, dc21_r13, dc21_r14, dc21_r15, dc21_r16, dc21_r17, dc21_r18, dc21_r19, dc21_r20, dc21, DL.dI, DL.dB, DL.dS, g3, g11, g12, g13, g34', g35, gt, DL.wrap_id]
                refine itoa_call x (by omega) (by omega) ?_
                rw [hdigx]
                simp -dsimp -implicitDefEqProofs (maxSteps := 1000000) (disch := first | omega | (simp only [List.length_append, List.length_cons, List.length_nil]; omega) | (intros; simp only [ne_eq, reduceCtorEq, not_false_eq_true] <;> fail)) only [DL.R, Nat.reduceEqDiff, ↓reduceIte, reduceCtorEq, Int.reduceToNat, Int.reduceLE, Int.reduceLT, Nat.reduceLeDiff, Nat.reduceAdd, Nat.reduceMul, Int.reduceBNe, Int.reduceBEq, Int.cast_ofNat_Int, decide_true, decide_false, ne_eq, eq_self, implies_true, dc21_r0, dc21_r1, dc21_r2, dc21_r3, dc21_r4, dc21_r5, dc21_r6, dc21_r7, dc21_r8, dc21_r9, dc21_r10, dc21_r11, dc21_r12, dc21_r13, dc21_r14, dc21_r15, dc21_r16, dc21_r17, dc21_r18, dc21_r19, dc21_r20, dc21, DL.dI, DL.dB, DL.dS, g3, g11, g12, g13, g34', g35, gt, DL.wrap_id]
                refine ws_spec (s := digitS x) hB3 (by simp [digitS]) (by simp [hdx]; omega) fun K4 hB4 hl4 hf4 => ?_
                have hB4' : BldAt H K4 (T ++ (HD ++ pTxt qwho (i + 1))) := by
                  rw [hpn, hts]
                  have hpi : pTxt qwho i = whoTxt qwho i := by unfold pTxt; rw [if_neg i0]
                  rw [hpi] at hB4
                  simpa using hB4
                simp -dsimp -implicitDefEqProofs (maxSteps := 1000000) (disch := first | omega | (simp only [List.length_append, List.length_cons, List.length_nil]; omega) | (intros; simp only [ne_eq, reduceCtorEq, not_false_eq_true] <;> fail)) only [DL.R, Nat.reduceEqDiff, ↓reduceIte, reduceCtorEq, Int.reduceToNat, Int.reduceLE, Int.reduceLT, Nat.reduceLeDiff, Nat.reduceAdd, Nat.reduceMul, Int.reduceBNe, Int.reduceBEq, Int.cast_ofNat_Int, decide_true, decide_false, ne_eq, eq_self, implies_true, dc21_r0, dc21_r1, dc21_r2, dc21_r3, dc21_r4, dc21_r5, dc21_r6, dc21_r7, dc21_r8, dc21_r9, dc21_r10, dc21_r11, dc21_r12, dc21_r13, dc21_r14, dc21_r15, dc21_r16, dc21_r17, dc21_r18, dc21_r19, dc21_r20, dc21, DL.dI, DL.dB, DL.dS, g3, g11, g12, g13, g34', g35, gt, DL.wrap_id]
                exact ⟨e, hB4', rfl⟩
            · have f1 : decide ((i : Int) < (qwho.length : Int)) = false := decide_eq_false (by omega)
              have hie : i = qwho.length := by omega
              have hpi : pTxt qwho i = whoTxt qwho qwho.length := by rw [hie]; unfold pTxt; rw [if_neg (by omega)]
              rw [hpi] at gB
              have hwt2 := whoTxt_len qwho qwho.length
              simp -dsimp -implicitDefEqProofs (maxSteps := 1000000) (disch := first | omega | (simp only [List.length_append, List.length_cons, List.length_nil]; omega) | (intros; simp only [ne_eq, reduceCtorEq, not_false_eq_true] <;> fail)) only [DL.R, Nat.reduceEqDiff, ↓reduceIte, reduceCtorEq, Int.reduceToNat, Int.reduceLE, Int.reduceLT, Nat.reduceLeDiff, Nat.reduceAdd, Nat.reduceMul, Int.reduceBNe, Int.reduceBEq, Int.cast_ofNat_Int, decide_true, decide_false, ne_eq, eq_self, implies_true, dc21_r0, dc21_r1, dc21_r2, dc21_r3, dc21_r4, dc21_r5, dc21_r6, dc21_r7, dc21_r8, dc21_r9, dc21_r10, dc21_r11, dc21_r12, dc21_r13, dc21_r14, dc21_r15, dc21_r16, dc21_r17, dc21_r18, dc21_r19, dc21_r20, dc21, DL.dI, DL.dB, DL.dS, g3, g11, g12, g13, g34, g35, gt, f1, DL.wrap_id]
              refine ws_spec (s := [10]) gB (by simp) (by simp; omega) fun K3 hB3 hl3 hf3 => ?_
              have hB3' : BldAt H K3 (rulesTxt (l.take (k + 1))) := by
                rw [htk, rulesTxt_snoc, hT, htx]; simpa using hB3
              simp -dsimp -implicitDefEqProofs (maxSteps := 1000000) (disch := first | omega | (simp only [List.length_append, List.length_cons, List.length_nil]; omega) | (intros; simp only [ne_eq, reduceCtorEq, not_false_eq_true] <;> fail)) only [DL.R, Nat.reduceEqDiff, ↓reduceIte, reduceCtorEq, Int.reduceToNat, Int.reduceLE, Int.reduceLT, Nat.reduceLeDiff, Nat.reduceAdd, Nat.reduceMul, Int.reduceBNe, Int.reduceBEq, Int.cast_ofNat_Int, decide_true, decide_false, ne_eq, eq_self, implies_true, dc21_r0, dc21_r1, dc21_r2, dc21_r3, dc21_r4, dc21_r5, dc21_r6, dc21_r7, dc21_r8, dc21_r9, dc21_r10, dc21_r11, dc21_r12, dc21_r13, dc21_r14, dc21_r15, dc21_r16, dc21_r17, dc21_r18, dc21_r19, dc21_r20, dc21, DL.dI, DL.dB, DL.dS, g3, g11, g12, g13, g34, g35, gt, DL.wrap_id]
              exact ⟨c, hB3'⟩
      · have c1 : decide ((k : Int) < (l.length : Int)) = false := decide_eq_false (by omega)
        rw [List.take_of_length_le (by omega)] at hB
        simp -dsimp -implicitDefEqProofs (maxSteps := 1000000) (disch := first | omega | (simp only [List.length_append, List.length_cons, List.length_nil]; omega) | (intros; simp only [ne_eq, reduceCtorEq, not_false_eq_true] <;> fail)) only [DL.R, Nat.reduceEqDiff, ↓reduceIte, reduceCtorEq, Int.reduceToNat, Int.reduceLE, Int.reduceLT, Nat.reduceLeDiff, Nat.reduceAdd, Nat.reduceMul, Int.reduceBNe, Int.reduceBEq, Int.cast_ofNat_Int, decide_true, decide_false, ne_eq, eq_self, implies_true, dc21_r0, dc21_r1, dc21_r2, dc21_r3, dc21_r4, dc21_r5, dc21_r6, dc21_r7, dc21_r8, dc21_r9, dc21_r10, dc21_r11, dc21_r12, dc21_r13, dc21_r14, dc21_r15, dc21_r16, dc21_r17, dc21_r18, dc21_r19, dc21_r20, dc21, DL.dI, DL.dB, DL.dS, h3, h11, h12, ht, c1]
        refine str_spec hB fun Gs => ?_
        simp -dsimp -implicitDefEqProofs (maxSteps := 1000000) (disch := first | omega | (simp only [List.length_append, List.length_cons, List.length_nil]; omega) | (intros; simp only [ne_eq, reduceCtorEq, not_false_eq_true] <;> fail)) only [DL.R, Nat.reduceEqDiff, ↓reduceIte, reduceCtorEq, Int.reduceToNat, Int.reduceLE, Int.reduceLT, Nat.reduceLeDiff, Nat.reduceAdd, Nat.reduceMul, Int.reduceBNe, Int.reduceBEq, Int.cast_ofNat_Int, decide_true, decide_false, ne_eq, eq_self, implies_true, dc21_r0, dc21_r1, dc21_r2, dc21_r3, dc21_r4, dc21_r5, dc21_r6, dc21_r7, dc21_r8, dc21_r9, dc21_r10, dc21_r11, dc21_r12, dc21_r13, dc21_r14, dc21_r15, dc21_r16, dc21_r17, dc21_r18, dc21_r19, dc21_r20, dc21, DL.dI, DL.dB, DL.dS]
        exact ⟨Gs, rfl, .lit _, hQ⟩
  · have hv' : validF l = false := by simpa using hv
    have hp : printF l = [] := by unfold printF; rw [hv']; rfl
    rw [hp] at hQ
    simp -dsimp -implicitDefEqProofs (maxSteps := 1000000) (disch := first | omega | (simp only [List.length_append, List.length_cons, List.length_nil]; omega) | (intros; simp only [ne_eq, reduceCtorEq, not_false_eq_true] <;> fail)) only [DL.R, Nat.reduceEqDiff, ↓reduceIte, reduceCtorEq, Int.reduceToNat, Int.reduceLE, Int.reduceLT, Nat.reduceLeDiff, Nat.reduceAdd, Nat.reduceMul, Int.reduceBNe, Int.reduceBEq, Int.cast_ofNat_Int, decide_true, decide_false, ne_eq, eq_self, implies_true, dc21_r0, dc21_r1, dc21_r2, dc21_r3, dc21_r4, dc21_r5, dc21_r6, dc21_r7, dc21_r8, dc21_r9, dc21_r10, dc21_r11, dc21_r12, dc21_r13, dc21_r14, dc21_r15, dc21_r16, dc21_r17, dc21_r18, dc21_r19, dc21_r20, dc21, DL.dI, DL.dB, DL.dS, hv']
    exact ⟨[], by simp, .lit _, hQ⟩
end Go.Proofs.Tryd
set_option maxRecDepth 100000
set_option maxHeartbeats 2000000
set_option linter.unusedSimpArgs false
set_option linter.unusedVariables false
namespace Go.Proofs.Tryd
open Go Go.DL
theorem itoa_one {n : Int} (h0 : 0 ≤ n) (h1 : n ≤ 9) : Lib.itoa n = [UInt8.ofNat (48 + n.toNat)] := itoa_dig h0 h1
theorem atoi_digit (n : Nat) (h : n < 10) : Lib.atoi [UInt8.ofNat (48 + n)] = some (n : Int) := by
  have : n = 0 ∨ n = 1 ∨ n = 2 ∨ n = 3 ∨ n = 4 ∨ n = 5 ∨ n = 6 ∨ n = 7 ∨ n = 8 ∨ n = 9 := by omega
  rcases this with rfl | rfl | rfl | rfl | rfl | rfl | rfl | rfl | rfl | rfl <;> rfl
theorem numberF_digit (n : Nat) (h : n < 10) : numberF [UInt8.ofNat (48 + n)] = (n : Int) := by
  have : n = 0 ∨ n = 1 ∨ n = 2 ∨ n = 3 ∨ n = 4 ∨ n = 5 ∨ n = 6 ∨ n = 7 ∨ n = 8 ∨ n = 9 := by omega
  rcases this with rfl | rfl | rfl | rfl | rfl | rfl | rfl | rfl | rfl | rfl <;> rfl
theorem numberF_is {t : List UInt8} (h : 0 ≤ numberF t) : ∃ n : Nat, n < 10 ∧ t = [UInt8.ofNat (48 + n)] := by
  unfold numberF at h
  split at h
  · rename_i b
    split at h
    · rename_i hd
      simp only [isDigit, Bool.and_eq_true, decide_eq_true_eq] at hd
      refine ⟨b.toNat - 48, by omega, ?_⟩
      rw [show 48 + (b.toNat - 48) = b.toNat by omega]; simp
    · omega
  · omega
theorem num_eq {t : List UInt8} {least most : Int} (h0 : 0 ≤ least) (h1 : most ≤ 9) : numOk t least most = (decide (least ≤ numberF t) && decide (numberF t ≤ most)) := by
  rw [Bool.eq_iff_iff]
  simp only [numOk]
  constructor
  · intro h
    split at h
    · rename_i n hn
      simp only [Bool.and_eq_true, decide_eq_true_eq, beq_iff_eq] at h
      obtain ⟨⟨h2, h3⟩, h4⟩ := h
      have e := itoa_one (n := n) (by omega) (by omega)
      have : numberF t = n := by
        rw [← h2, e, numberF_digit _ (by omega)]; omega
      rw [this]; simp; omega
    · cases h
  · intro h
    simp only [Bool.and_eq_true, decide_eq_true_eq] at h
    obtain ⟨n, hn, rfl⟩ := numberF_is (t := t) (by omega)
    rw [numberF_digit n hn] at h
    rw [atoi_digit n hn]
    simp only [Bool.and_eq_true, decide_eq_true_eq, beq_iff_eq]
    exact ⟨⟨by rw [itoa_one (by omega) (by omega)]; simp, h.1⟩, h.2⟩
theorem num_val {t : List UInt8} {least most : Int} (h0 : 0 ≤ least) (h1 : most ≤ 9) (h : numOk t least most = true) : numT t = numberF t := by
  rw [num_eq h0 h1] at h
  simp only [Bool.and_eq_true, decide_eq_true_eq] at h
  obtain ⟨n, hn, rfl⟩ := numberF_is (t := t) (by omega)
  rw [numberF_digit n hn]
  unfold numT; rw [atoi_digit n hn]; rfl
section
variable (nn N : Nat)
def Er (l : List Tok) : List Rule × Int := match l with
  | [] => ([], (nn : Int))
  | t :: l' => ([], ((N - offs (t :: l') + t.before.length : Nat) : Int))
def Ex (l : List Tok) (p : PS) : List Rule × Int := refEnd nn (refRun l p (N - offs l))
def Xp (p : PS) (s : RS) : List Rule × Int := if s.bad then Er nn N s.l else Ex nn N s.l p
end
section
variable {nn N : Nat}
theorem Ex_cons {t : Tok} {l : List Tok} {p : PS} (h : offs (t :: l) ≤ N) : Ex nn N (t :: l) p = if (refStep p t.text).2 then Ex nn N l (refStep p t.text).1 else Er nn N (t :: l) := by
  unfold Ex
  rw [refRun]
  by_cases h2 : (refStep p t.text).2 = true
  · rw [if_pos h2, if_pos h2]
    congr 2
    simp only [offs] at h ⊢; omega
  · rw [if_neg h2, if_neg h2]; rfl
def RS.good (N : Nat) (s : RS) : Prop := offs s.l ≤ N ∧ ∀ t ∈ s.l, t.text ≠ []
theorem RS.good_take {N : Nat} {s : RS} {b : Bool} (h : s.good N) : (s.take b).good N := by
  unfold RS.take
  split
  · exact h
  · refine ⟨?_, fun t ht => h.2 t (List.mem_of_mem_drop ht)⟩
    have := h.1
    cases hl : s.l with
    | nil => simp [offs]
    | cons t l => rw [hl] at this; simp [offs] at this ⊢; omega
theorem Xp_take {p p' : PS} {s : RS} {right : Bool} (hg : s.good N) (hnil : s.bad = false → s.l = [] → Ex nn N [] p = Er nn N []) (hstep : s.bad = false → s.nx ≠ [] → (refStep p s.nx).2 = right ∧ (right = true → (refStep p s.nx).1 = p')) :
    Xp nn N p' (s.take right) = Xp nn N p s := by
  obtain ⟨l, bad⟩ := s
  cases bad with
  | true => rfl
  | false =>
    cases l with
    | nil =>
      have e : RS.take ⟨[], false⟩ right = ⟨[], true⟩ := by unfold RS.take RS.no RS.nx nextT; cases right <;> rfl
      rw [e]
      show Er nn N [] = Ex nn N [] p
      exact (hnil rfl rfl).symm
    | cons t l =>
      have hne : t.text ≠ [] := hg.2 t (by simp)
      obtain ⟨h1, h2⟩ := hstep rfl hne
      have hx : RS.nx ⟨t :: l, false⟩ = t.text := rfl
      rw [hx] at h1 h2
      show _ = Ex nn N (t :: l) p
      rw [Ex_cons hg.1, h1]
      have hb : (t.text == []) = false := by simp [hne]
      cases right with
      | true =>
        have e : RS.take ⟨t :: l, false⟩ true = ⟨l, false⟩ := by simp only [RS.take, RS.no, hx, hb]; rfl
        rw [e, if_pos rfl, h2 rfl]; rfl
      | false =>
        have e : RS.take ⟨t :: l, false⟩ false = ⟨t :: l, true⟩ := by simp only [RS.take, RS.no, hx, hb]; rfl
        rw [e]; rfl
theorem Ex_nil {p : PS} (h : p.st ≠ .what) (h2 : p.st ≠ .more ∨ ¬ p.r.n ≤ (p.r.who.length : Int)) : Ex nn N [] p = Er nn N [] := by
  show refEnd nn (some p, _) = _
  simp only [refEnd]
  rw [if_neg h, if_neg (fun q => by rcases h2 with z | z; exact z q.1; exact z q.2)]; rfl
theorem RS.take_bad {s : RS} {b : Bool} (h : (s.take b).bad = false) : s.bad = false ∧ b = true ∧ s.nx ≠ [] := by
  unfold RS.take at h
  split at h
  · cases h
  · rename_i h2
    simp only [RS.no, Bool.or_eq_true, Bool.not_eq_true', beq_iff_eq, not_or, Bool.not_eq_true, Bool.not_eq_false] at h2
    exact ⟨h, h2.1.2, h2.2⟩
theorem more_what {out : List Rule} {r : Rule} {l : List Tok} (hg : offs l ≤ N) (hn : r.n ≤ (r.who.length : Int)) (hx : nextT l ≠ [44]) : Ex nn N l ⟨out, r, .more⟩ = Ex nn N l ⟨out ++ [r], r, .what⟩ := by
  cases l with
  | nil =>
    show refEnd nn (some _, _) = refEnd nn (some _, _)
    simp [refEnd, hn]
  | cons t l =>
    rw [Ex_cons hg, Ex_cons hg]
    have e : refStep ⟨out, r, .more⟩ t.text = refStep ⟨out ++ [r], r, .what⟩ t.text := by
      have h1 : PS.again ⟨out, r, .more⟩ t.text = true := by
        have : t.text ≠ [44] := hx
        simp [PS.again, this, hn]
      have h2 : PS.again ⟨out ++ [r], r, .what⟩ t.text = false := by simp [PS.again]
      unfold refStep PS.pre
      rw [h1, h2]; rfl
    rw [e]
theorem who_sim : ∀ (f : Nat) (s : RS) (out : List Rule) (w m : ByteArray) (n least : Int) (who : List Int), s.good N → s.left < f → (0 ≤ least) → (least = if who = [] then 0 else who.getD (who.length - 1) 0 + 1) →
    Xp nn N ⟨out, ⟨w, m, n, who⟩, .who⟩ s = if (whoF f s least n who).2.bad then Er nn N (whoF f s least n who).2.l else Ex nn N (whoF f s least n who).2.l ⟨out ++ [⟨w, m, n, (whoF f s least n who).1⟩], ⟨w, m, n, (whoF f s least n who).1⟩, .what⟩
  | 0, s, out, w, m, n, least, who, hg, hf, h0, hl => by omega
  | f + 1, s, out, w, m, n, least, who, hg, hf, h0, hl => by
    rw [whoF]
    by_cases hb : s.bad = true
    · rw [if_pos hb]
      simp only [Xp, hb, if_true]
    · have hb' : s.bad = false := by simpa using hb
      rw [if_neg hb]
      have hg1 : (s.num least 7).good N := RS.good_take hg

      have e1 : Xp nn N ⟨out, ⟨w, m, n, who ++ [numberF s.nx]⟩, .more⟩ (s.num least 7) = Xp nn N ⟨out, ⟨w, m, n, who⟩, .who⟩ s := by
        unfold RS.num
        refine Xp_take hg (fun _ _ => Ex_nil (by simp) (.inl (by simp))) fun _ _ => ⟨?_, fun _ => ?_⟩
        · rw [num_eq h0 (by omega)]
          have hp : PS.pre ⟨out, ⟨w, m, n, who⟩, .who⟩ s.nx = ⟨out, ⟨w, m, n, who⟩, .who⟩ := by simp [PS.pre, PS.again]
          unfold refStep
          rw [hp]
          simp only
          rw [Bool.eq_iff_iff]
          by_cases hw : who = []
          · rw [if_pos hw] at hl
            simp [hw, hl]
          · rw [if_neg hw] at hl
            have hwl : who.length ≠ 0 := by simpa using hw
            simp only [Bool.and_eq_true, Bool.or_eq_true, decide_eq_true_eq, beq_iff_eq]
            constructor
            · rintro ⟨⟨_, q2⟩, q3 | q3⟩
              · exact absurd q3 hwl
              · exact ⟨by omega, q2⟩
            · rintro ⟨q1, q2⟩
              exact ⟨⟨by omega, q2⟩, .inr (by omega)⟩
        · have hp : PS.pre ⟨out, ⟨w, m, n, who⟩, .who⟩ s.nx = ⟨out, ⟨w, m, n, who⟩, .who⟩ := by simp [PS.pre, PS.again]
          unfold refStep
          rw [hp]
      rw [← e1]
      have hlt : (s.num least 7).left < s.left := RS.take_left.2 hb'
      by_cases hb1 : (s.num least 7).bad = true
      · 
        have e2' : ∀ u : RS, u.bad = true → ∀ b, u.take b = u := by
          rintro ⟨l1, b1⟩ h b
          simp only at h
          subst h
          rfl
        have e2 := e2' _ hb1
        have e3 : ∀ f' least' who', (whoF f' (s.num least 7) least' n who').2 = s.num least 7 := fun f' least' who' => by
          cases f' with
          | zero => rfl
          | succ f' => rw [whoF, if_pos hb1]
        have e4 : ∀ p, Xp nn N p (s.num least 7) = Er nn N (s.num least 7).l := fun p => by unfold Xp; rw [if_pos hb1]
        rw [e4]
        split
        · first | rfl | rw [if_pos hb1]
        · rw [e2, e3, if_pos hb1]
      · have hb1' : (s.num least 7).bad = false := by simpa using hb1
        obtain ⟨_, hok, hnx⟩ := RS.take_bad hb1'
        have hval : numT s.nx = numberF s.nx := num_val h0 (by omega) hok
        rw [num_eq h0 (by omega)] at hok
        simp only [Bool.and_eq_true, decide_eq_true_eq] at hok
        rw [hval]
        split
        · rename_i hc
          simp only [Bool.and_eq_true, decide_eq_true_eq, bne_iff_ne] at hc
          try rw [if_neg hb1]
          show Xp nn N _ (s.num least 7) = _
          unfold Xp
          rw [if_neg hb1]
          exact more_what hg1.1 hc.1 hc.2
        · rename_i hc
          simp only [Bool.and_eq_true, decide_eq_true_eq, bne_iff_ne, not_and, Decidable.not_not] at hc
          have e5 : Xp nn N ⟨out, ⟨w, m, n, who ++ [numberF s.nx]⟩, .who⟩ ((s.num least 7).take ((s.num least 7).nx == [44])) = Xp nn N ⟨out, ⟨w, m, n, who ++ [numberF s.nx]⟩, .more⟩ (s.num least 7) := by
            refine Xp_take hg1 (fun _ hn => Ex_nil (by simp) (.inr fun q => ?_)) fun _ hne => ?_
            · have := hc q
              simp [RS.nx, hn, nextT] at this
            · have ha : PS.again ⟨out, ⟨w, m, n, who ++ [numberF s.nx]⟩, .more⟩ (s.num least 7).nx = false := by
                rw [← Bool.not_eq_true]
                intro q
                simp only [PS.again, Bool.and_eq_true, decide_eq_true_eq, bne_iff_ne] at q
                exact q.1.2 (hc q.2)
              unfold refStep PS.pre
              rw [ha]
              exact ⟨rfl, fun _ => rfl⟩
          rw [← e5]
          have hlt2 := (RS.take_left (s := s.num least 7) (b := (s.num least 7).nx == [44])).1
          exact who_sim f _ out w m n (numberF s.nx + 1) (who ++ [numberF s.nx]) (RS.good_take hg1) (by omega) (by omega) (by
            rw [if_neg (by simp)]; simp [List.getD_eq_getElem?_getD])
end
end Go.Proofs.Tryd
set_option maxRecDepth 100000
set_option maxHeartbeats 2000000
set_option linter.unusedSimpArgs false
set_option linter.unusedVariables false
namespace Go.Proofs.Tryd
open Go Go.DL
section
variable {nn N : Nat}
theorem whoF_bad {s : RS} (h : s.bad = true) : ∀ (f : Nat) (least n : Int) (who : List Int), whoF f s least n who = (who, s)
  | 0, _, _, _ => rfl
  | f + 1, least, n, who => by rw [whoF, if_pos h]
theorem Xp_bad {p : PS} {s : RS} (h : s.bad = true) : Xp nn N p s = Er nn N s.l := by unfold Xp; rw [if_pos h]
theorem got_ok {s : RS} {b : Bool} (h : (s.take b).bad = false) : s.got b = s.nx := by
  obtain ⟨h1, h2, h3⟩ := RS.take_bad h
  unfold RS.got RS.no
  rw [h1, h2]; simp [h3]
theorem pre_no {p : PS} {t : List UInt8} (h : p.st ≠ .more) : p.pre t = p := by
  have : p.again t = false := by simp [PS.again, h]
  unfold PS.pre; rw [this]; rfl
theorem rule_sim (s : RS) (out : List Rule) (r0 : Rule) (hg : s.good N) (hl : s.l ≠ []) (hb : s.bad = false) (ho : out.length < 64) :
    Ex nn N s.l ⟨out, r0, .what⟩ = Xp nn N ⟨out ++ [ruleOf s], ruleOf s, .what⟩ (rsWho s).2 := by
  have e0 : Ex nn N s.l ⟨out, r0, .what⟩ = Xp nn N ⟨out, r0, .what⟩ s := by unfold Xp; rw [if_neg (by simp [hb])]
  have g1 : (rs1 s).good N := RS.good_take hg
  have e1 : Xp nn N ⟨out, ⟨str s.nx, str [], 0, []⟩, .inn⟩ (rs1 s) = Xp nn N ⟨out, r0, .what⟩ s := by
    refine Xp_take hg (fun _ h => absurd h hl) fun _ _ => ?_
    unfold refStep
    rw [pre_no (by simp)]
    refine ⟨?_, fun _ => rfl⟩
    simp only [ho, decide_true, Bool.and_true]
    exact (isWhat_eq _).symm

  have e2 : ∃ m, Xp nn N ⟨out, ⟨str s.nx, m, 0, []⟩, .count⟩ (rs4 s) = Xp nn N ⟨out, ⟨str s.nx, str [], 0, []⟩, .inn⟩ (rs1 s) ∧ ((rs4 s).bad = false → (rs1 s).bad = false ∧ m = str (rsMod s)) := by
    by_cases hin : (rs1 s).nx = [105, 110]
    · have h3 : rs3 s = (rs2 s).take (isWord kwL (rs2 s).nx) := by unfold rs3; rw [if_pos hin]
      have hm : rsMod s = (rs2 s).got (isWord kwL (rs2 s).nx) := by unfold rsMod; rw [if_pos hin]
      have g2 : (rs2 s).good N := RS.good_take g1
      have g3 : (rs3 s).good N := h3 ▸ RS.good_take g2
      refine ⟨str (rs2 s).nx, ?_, fun h => ?_⟩
      · have a1 : Xp nn N ⟨out, ⟨str s.nx, str [], 0, []⟩, .name⟩ (rs2 s) = Xp nn N ⟨out, ⟨str s.nx, str [], 0, []⟩, .inn⟩ (rs1 s) := by
          refine Xp_take g1 (fun _ _ => Ex_nil (by simp) (.inl (by simp))) fun _ _ => ?_
          unfold refStep
          rw [pre_no (by simp)]
          simp only [hin]
          exact ⟨rfl, fun _ => rfl⟩
        have a2 : Xp nn N ⟨out, ⟨str s.nx, str (rs2 s).nx, 0, []⟩, .colon⟩ (rs3 s) = Xp nn N ⟨out, ⟨str s.nx, str [], 0, []⟩, .name⟩ (rs2 s) := by
          rw [h3]
          refine Xp_take g2 (fun _ _ => Ex_nil (by simp) (.inl (by simp))) fun _ _ => ?_
          unfold refStep
          rw [pre_no (by simp)]
          exact ⟨rfl, fun _ => rfl⟩
        have a3 : Xp nn N ⟨out, ⟨str s.nx, str (rs2 s).nx, 0, []⟩, .count⟩ (rs4 s) = Xp nn N ⟨out, ⟨str s.nx, str (rs2 s).nx, 0, []⟩, .colon⟩ (rs3 s) := by
          refine Xp_take g3 (fun _ _ => Ex_nil (by simp) (.inl (by simp))) fun _ _ => ?_
          unfold refStep
          rw [pre_no (by simp)]
          exact ⟨rfl, fun _ => rfl⟩
        rw [a3, a2, a1]
      · have h' := (RS.take_bad h).1
        rw [h3] at h'
        have h'' := (RS.take_bad h').1
        exact ⟨(RS.take_bad h'').1, by rw [hm, got_ok h']⟩
    · have h3 : rs3 s = rs1 s := by unfold rs3; rw [if_neg hin]
      have hm : rsMod s = [] := by unfold rsMod; rw [if_neg hin]
      have h4 : rs4 s = (rs1 s).take ((rs1 s).nx == [58]) := by unfold rs4; rw [h3]
      refine ⟨str [], ?_, fun h => ?_⟩
      · rw [h4]
        refine Xp_take g1 (fun _ _ => Ex_nil (by simp) (.inl (by simp))) fun _ _ => ?_
        unfold refStep
        rw [pre_no (by simp)]
        exact ⟨by simp [hin], fun _ => by simp [hin]⟩
      · rw [h4] at h
        exact ⟨(RS.take_bad h).1, by rw [hm]⟩
  obtain ⟨m, e2, m2⟩ := e2
  have g3 : (rs3 s).good N := by
    unfold rs3; split
    · exact RS.good_take (RS.good_take g1)
    · exact g1
  have g4 : (rs4 s).good N := RS.good_take g3
  have g5 : (rs5 s).good N := RS.good_take g4
  have g6 : (rs6 s).good N := RS.good_take g5
  have e5 : Xp nn N ⟨out, ⟨str s.nx, m, numberF (rs4 s).nx, []⟩, .of_⟩ (rs5 s) = Xp nn N ⟨out, ⟨str s.nx, m, 0, []⟩, .count⟩ (rs4 s) := by
    refine Xp_take g4 (fun _ _ => Ex_nil (by simp) (.inl (by simp))) fun _ _ => ?_
    unfold refStep
    rw [pre_no (by simp)]
    exact ⟨(num_eq (by omega) (by omega)).symm, fun _ => rfl⟩
  have e6 : Xp nn N ⟨out, ⟨str s.nx, m, numberF (rs4 s).nx, []⟩, .who⟩ (rs6 s) = Xp nn N ⟨out, ⟨str s.nx, m, numberF (rs4 s).nx, []⟩, .of_⟩ (rs5 s) := by
    refine Xp_take g5 (fun _ _ => Ex_nil (by simp) (.inl (by simp))) fun _ _ => ?_
    unfold refStep
    rw [pre_no (by simp)]
    exact ⟨rfl, fun _ => rfl⟩
  rw [e0, ← e1, ← e2, ← e5, ← e6]
  by_cases hb6 : (rs6 s).bad = true
  · have : rsWho s = ([], rs6 s) := by unfold rsWho; exact whoF_bad hb6 _ _ _ _
    rw [this, Xp_bad hb6, Xp_bad hb6]
  · have hb6' : (rs6 s).bad = false := by simpa using hb6
    have hb5 := (RS.take_bad hb6').1
    obtain ⟨hb4, hok, _⟩ := RS.take_bad hb5
    have hval : numT (rs4 s).nx = numberF (rs4 s).nx := num_val (by omega) (by omega) hok
    obtain ⟨hb1, hm⟩ := m2 hb4
    have hwho : rsWho s = whoF ((rs6 s).left + 1) (rs6 s) 0 (numberF (rs4 s).nx) [] := by unfold rsWho; rw [hval]
    rw [who_sim ((rs6 s).left + 1) (rs6 s) out (str s.nx) m (numberF (rs4 s).nx) 0 [] g6 (by omega) (by omega) rfl]
    have hro : ruleOf s = ⟨str s.nx, m, numberF (rs4 s).nx, (whoF ((rs6 s).left + 1) (rs6 s) 0 (numberF (rs4 s).nx) []).1⟩ := by
      unfold ruleOf
      have hgot : s.got (isWhat kindsL s.nx) = s.nx := got_ok hb1
      rw [hgot, hm, hval, hwho]
    rw [hro, hwho]
    rfl
theorem rsWho_good {s : RS} (h : s.good N) : (rsWho s).2.good N := by
  have hw : ∀ (f : Nat) (s : RS) (least n : Int) (who : List Int), s.good N → (whoF f s least n who).2.good N := by
    intro f
    induction f with
    | zero => intro s least n who h; exact h
    | succ f ih =>
      intro s least n who h
      rw [whoF]
      split
      · exact h
      · split
        · exact RS.good_take h
        · exact ih _ _ _ _ (RS.good_take (RS.good_take h))
  refine hw _ _ _ _ _ (RS.good_take (RS.good_take (RS.good_take ?_)))
  unfold rs3; split
  · exact RS.good_take (RS.good_take (RS.good_take h))
  · exact RS.good_take h
theorem offs_drop (l : List Tok) (k : Nat) : offs (l.take k) + offs (l.drop k) = offs l := by
  induction l generalizing k with
  | nil => simp [offs]
  | cons t l ih =>
    cases k with
    | zero => simp [offs]
    | succ k => have := ih k; simp [offs]; omega
theorem parse_sim (ts : List Tok) : ∀ (f : Nat) (s : RS) (out : List Rule) (r0 : Rule), s.good (offs ts) → s.ok → s.suf ⟨ts, false⟩ → s.left < f → out.length ≤ 64 → parseEnd nn ts (parseF f s out) = Xp nn (offs ts) ⟨out, r0, .what⟩ s
  | 0, s, out, r0, hg, hk, hs, hf, ho => by omega
  | f + 1, s, out, r0, hg, hk, hs, hf, ho => by
    have herr : ∀ u : RS, u.bad = true → u.suf ⟨ts, false⟩ → parseEnd nn ts (out, u) = Er nn (offs ts) u.l := by
      intro u hu hsu
      unfold parseEnd
      rw [if_neg (by simp [hu])]
      unfold Er
      cases hul : u.l with
      | nil => rfl
      | cons t l' =>
        simp only
        have h2 := hsu.2
        have h1 := offs_drop ts (ts.length - u.l.length)
        simp only at h2
        rw [← h2, hul] at h1
        have : offs (ts.take (ts.length - (t :: l').length)) = offs ts - offs (t :: l') := by omega
        rw [this]
    rw [parseF]
    by_cases hb : s.bad = true
    · rw [if_pos (by simp [hb]), herr s hb hs, Xp_bad hb]
    · have hb' : s.bad = false := by simpa using hb
      by_cases hl : s.l = []
      · rw [if_pos (by simp [hl])]
        unfold parseEnd Xp
        rw [if_pos hb', if_neg hb, hl]
        rfl
      · rw [if_neg (by simp [hb', hl])]
        by_cases h64 : out.length = 64
        · rw [if_pos h64, herr ⟨s.l, true⟩ rfl hs]
          unfold Xp
          rw [if_neg hb]
          cases hsl : s.l with
          | nil => exact absurd hsl hl
          | cons t l' =>
            have hg1 := hg.1
            rw [hsl] at hg1
            rw [Ex_cons hg1]
            have : (refStep ⟨out, r0, .what⟩ t.text).2 = false := by
              unfold refStep
              rw [pre_no (by simp)]
              simp [h64]
            rw [if_neg (by simp [this])]
        · rw [if_neg h64]
          obtain ⟨w1, w2, w3⟩ := rsWho_ok hk
          have w2 := w2 hb'
          rw [parse_sim ts f (rsWho s).2 (out ++ [ruleOf s]) (ruleOf s) (rsWho_good hg) w1 (RS.suf_trans w3 hs) (by omega) (by simp; omega)]
          rw [← rule_sim s out r0 hg hl hb' (by omega)]
          unfold Xp
          rw [if_neg hb]
end
theorem parse_eq (l : List UInt8) : parseP l = refP l := by
  unfold parseP refP
  split
  · rfl
  · obtain ⟨k1, k2, k3⟩ := scan_ok l
    rw [parse_sim (nn := l.length) (scan l).1 _ ⟨(scan l).1, false⟩ [] ⟨str [], str [], 0, []⟩ ⟨Nat.le_refl _, fun t ht => (k2 t ht).2⟩ ⟨k1, fun t ht => (k2 t ht).1⟩ (RS.suf_refl _) (by omega) (by simp)]
    unfold Xp Ex
    simp only [Bool.false_eq_true, if_false, Nat.sub_self]
end Go.Proofs.Tryd
set_option maxRecDepth 100000
set_option maxHeartbeats 2000000
set_option linter.unusedSimpArgs false
set_option linter.unusedVariables false
namespace Go.Proofs.Tryd
open Go Go.DL
variable {G : Nat → D} {H : List O} {Q : D → List O → Prop}
def lv1 : List UInt8 := [98, 111, 100, 121, 32, 105, 110, 32, 109, 105, 108, 108, 58, 32, 50, 32, 111, 102, 32, 48, 44, 32, 49, 44, 32, 51]
def lv2 : List UInt8 := [97, 110, 121, 58, 32, 49, 32, 111, 102]
def lv3 : List UInt8 := [97, 110, 121, 58, 32, 50, 32, 111, 102, 32, 51, 32, 110, 97, 109, 101, 58, 32, 49, 32, 111, 102, 32, 48]
def lvR : List Rule := [⟨str [98, 111, 100, 121], str [109, 105, 108, 108], 2, [0, 1, 3]⟩]
theorem lv1_eq : parseP lv1 = (lvR, -1) := by rw [parse_eq]; rfl
theorem lv2_eq : parseP lv2 = ([], 9) := by rw [parse_eq]; rfl
theorem lv3_eq : parseP lv3 = ([], 12) := by rw [parse_eq]; rfl
theorem sameRules_refl (l : List Rule) : sameRules l l = true := by
  simp only [sameRules, beq_self_eq_true, Bool.true_and, List.all_eq_true]
  intro p hp
  obtain ⟨i, hi, rfl⟩ := List.mem_iff_getElem.1 hp
  simp [sameRule]
theorem lvR_len : ∀ r ∈ lvR, ruleLen r := by
  intro r hr
  simp only [lvR, List.mem_singleton] at hr
  subst hr
  simp [ruleLen, bl8_str]
theorem lv_e1 : enough lvR 1 [0, 1, 0] = false := by decide
theorem lv_e2 : enough lvR 2 [0, 1] = true := by decide
theorem lv_print : printF lvR = [98, 111, 100, 121, 32, 105, 110, 32, 109, 105, 108, 108, 58, 32, 50, 32, 111, 102, 32, 48, 44, 32, 49, 44, 32, 51, 10] := by rfl
theorem lv_what : whatOf kindsL 12 = [98, 111, 100, 121] := rfl
theorem lives_spec (hE : Env G) (hQ : Q (dB true) H) : CallA Tryd.prog G 17 [] H Q := by
  refine s17 (Nat.le_of_ble_eq_true rfl) ?_
  simp -dsimp -implicitDefEqProofs (maxSteps := 1000000) (disch := first | omega | (simp only [List.length_append, List.length_cons, List.length_nil]; omega) | (intros; simp only [ne_eq, reduceCtorEq, not_false_eq_true] <;> fail)) only [DL.R, Nat.reduceEqDiff, ↓reduceIte, reduceCtorEq, Int.reduceToNat, Int.reduceLE, Int.reduceLT, Nat.reduceLeDiff, Nat.reduceAdd, Nat.reduceMul, Int.reduceBNe, Int.reduceBEq, Int.cast_ofNat_Int, decide_true, decide_false, ne_eq, eq_self, implies_true, dc17_r0, dc17_r1, dc17_r2, dc17_r3, dc17_r4, dc17_r5, dc17_r6, dc17_r7, dc17, DL.dI, DL.dB, DL.dS]
  refine parse_spec hE lv1 (by decide) ?_
  rw [lv1_eq]
  unfold parseD
  simp -dsimp -implicitDefEqProofs (maxSteps := 1000000) (disch := first | omega | (simp only [List.length_append, List.length_cons, List.length_nil]; omega) | (intros; simp only [ne_eq, reduceCtorEq, not_false_eq_true] <;> fail)) only [DL.R, Nat.reduceEqDiff, ↓reduceIte, reduceCtorEq, Int.reduceToNat, Int.reduceLE, Int.reduceLT, Nat.reduceLeDiff, Nat.reduceAdd, Nat.reduceMul, Int.reduceBNe, Int.reduceBEq, Int.cast_ofNat_Int, decide_true, decide_false, ne_eq, eq_self, implies_true, dc17_r0, dc17_r1, dc17_r2, dc17_r3, dc17_r4, dc17_r5, dc17_r6, dc17_r7, dc17, DL.dI, DL.dB, DL.dS]
  refine parse_spec hE lv2 (by decide) ?_
  rw [lv2_eq]
  unfold parseD
  simp -dsimp -implicitDefEqProofs (maxSteps := 1000000) (disch := first | omega | (simp only [List.length_append, List.length_cons, List.length_nil]; omega) | (intros; simp only [ne_eq, reduceCtorEq, not_false_eq_true] <;> fail)) only [DL.R, Nat.reduceEqDiff, ↓reduceIte, reduceCtorEq, Int.reduceToNat, Int.reduceLE, Int.reduceLT, Nat.reduceLeDiff, Nat.reduceAdd, Nat.reduceMul, Int.reduceBNe, Int.reduceBEq, Int.cast_ofNat_Int, decide_true, decide_false, ne_eq, eq_self, implies_true, dc17_r0, dc17_r1, dc17_r2, dc17_r3, dc17_r4, dc17_r5, dc17_r6, dc17_r7, dc17, DL.dI, DL.dB, DL.dS]
  refine parse_spec hE lv3 (by decide) ?_
  rw [lv3_eq]
  unfold parseD
  simp -dsimp -implicitDefEqProofs (maxSteps := 1000000) (disch := first | omega | (simp only [List.length_append, List.length_cons, List.length_nil]; omega) | (intros; simp only [ne_eq, reduceCtorEq, not_false_eq_true] <;> fail)) only [DL.R, Nat.reduceEqDiff, ↓reduceIte, reduceCtorEq, Int.reduceToNat, Int.reduceLE, Int.reduceLT, Nat.reduceLeDiff, Nat.reduceAdd, Nat.reduceMul, Int.reduceBNe, Int.reduceBEq, Int.cast_ofNat_Int, decide_true, decide_false, ne_eq, eq_self, implies_true, dc17_r0, dc17_r1, dc17_r2, dc17_r3, dc17_r4, dc17_r5, dc17_r6, dc17_r7, dc17, DL.dI, DL.dB, DL.dS]
  refine sameRules_spec lvR lvR (by decide) (fun r hr => (lvR_len r hr).2.2) ?_
  rw [sameRules_refl]
  simp -dsimp -implicitDefEqProofs (maxSteps := 1000000) (disch := first | omega | (simp only [List.length_append, List.length_cons, List.length_nil]; omega) | (intros; simp only [ne_eq, reduceCtorEq, not_false_eq_true] <;> fail)) only [DL.R, Nat.reduceEqDiff, ↓reduceIte, reduceCtorEq, Int.reduceToNat, Int.reduceLE, Int.reduceLT, Nat.reduceLeDiff, Nat.reduceAdd, Nat.reduceMul, Int.reduceBNe, Int.reduceBEq, Int.cast_ofNat_Int, decide_true, decide_false, ne_eq, eq_self, implies_true, dc17_r0, dc17_r1, dc17_r2, dc17_r3, dc17_r4, dc17_r5, dc17_r6, dc17_r7, dc17, DL.dI, DL.dB, DL.dS]
  refine enough_spec lvR 1 [0, 1, 0] (by decide) (by decide) (fun r hr => (lvR_len r hr).2.2) ?_
  rw [lv_e1]
  simp -dsimp -implicitDefEqProofs (maxSteps := 1000000) (disch := first | omega | (simp only [List.length_append, List.length_cons, List.length_nil]; omega) | (intros; simp only [ne_eq, reduceCtorEq, not_false_eq_true] <;> fail)) only [DL.R, Nat.reduceEqDiff, ↓reduceIte, reduceCtorEq, Int.reduceToNat, Int.reduceLE, Int.reduceLT, Nat.reduceLeDiff, Nat.reduceAdd, Nat.reduceMul, Int.reduceBNe, Int.reduceBEq, Int.cast_ofNat_Int, decide_true, decide_false, ne_eq, eq_self, implies_true, dc17_r0, dc17_r1, dc17_r2, dc17_r3, dc17_r4, dc17_r5, dc17_r6, dc17_r7, dc17, DL.dI, DL.dB, DL.dS]
  refine enough_spec lvR 2 [0, 1] (by decide) (by decide) (fun r hr => (lvR_len r hr).2.2) ?_
  rw [lv_e2]
  simp -dsimp -implicitDefEqProofs (maxSteps := 1000000) (disch := first | omega | (simp only [List.length_append, List.length_cons, List.length_nil]; omega) | (intros; simp only [ne_eq, reduceCtorEq, not_false_eq_true] <;> fail)) only [DL.R, Nat.reduceEqDiff, ↓reduceIte, reduceCtorEq, Int.reduceToNat, Int.reduceLE, Int.reduceLT, Nat.reduceLeDiff, Nat.reduceAdd, Nat.reduceMul, Int.reduceBNe, Int.reduceBEq, Int.cast_ofNat_Int, decide_true, decide_false, ne_eq, eq_self, implies_true, dc17_r0, dc17_r1, dc17_r2, dc17_r3, dc17_r4, dc17_r5, dc17_r6, dc17_r7, dc17, DL.dI, DL.dB, DL.dS]
  refine print_spec hE lvR (by decide) lvR_len ?_
  rw [lv_print]
  simp -dsimp -implicitDefEqProofs (maxSteps := 1000000) (disch := first | omega | (simp only [List.length_append, List.length_cons, List.length_nil]; omega) | (intros; simp only [ne_eq, reduceCtorEq, not_false_eq_true] <;> fail)) only [DL.R, Nat.reduceEqDiff, ↓reduceIte, reduceCtorEq, Int.reduceToNat, Int.reduceLE, Int.reduceLT, Nat.reduceLeDiff, Nat.reduceAdd, Nat.reduceMul, Int.reduceBNe, Int.reduceBEq, Int.cast_ofNat_Int, decide_true, decide_false, ne_eq, eq_self, implies_true, dc17_r0, dc17_r1, dc17_r2, dc17_r3, dc17_r4, dc17_r5, dc17_r6, dc17_r7, dc17, DL.dI, DL.dB, DL.dS, BEq.rfl]
  refine What_spec kindsL rfl 12 _ hE.kinds ?_
  rw [lv_what]
  simp -dsimp -implicitDefEqProofs (maxSteps := 1000000) (disch := first | omega | (simp only [List.length_append, List.length_cons, List.length_nil]; omega) | (intros; simp only [ne_eq, reduceCtorEq, not_false_eq_true] <;> fail)) only [DL.R, Nat.reduceEqDiff, ↓reduceIte, reduceCtorEq, Int.reduceToNat, Int.reduceLE, Int.reduceLT, Nat.reduceLeDiff, Nat.reduceAdd, Nat.reduceMul, Int.reduceBNe, Int.reduceBEq, Int.cast_ofNat_Int, decide_true, decide_false, ne_eq, eq_self, implies_true, dc17_r0, dc17_r1, dc17_r2, dc17_r3, dc17_r4, dc17_r5, dc17_r6, dc17_r7, dc17, DL.dI, DL.dB, DL.dS, BEq.rfl]
  exact hQ
end Go.Proofs.Tryd
set_option maxRecDepth 100000
set_option maxHeartbeats 2000000
set_option linter.unusedSimpArgs false
set_option linter.unusedVariables false
namespace Go.Proofs.Tryd
open Go Go.DL
variable {G : Nat → D} {H : List O} {Q : D → List O → Prop}
def Weak (d' d : D) : Prop := ∀ c H v, RdV c H d' v → RdV c H d v
theorem Weak.refl (d : D) : Weak d d := fun _ _ _ h => h
theorem Weak.nil : Weak (.lit (.slice none 0 0)) (.sl []) := by
  intro c H v hv
  cases hv
  exact .sl [] none ⟨0, 0, none⟩ 0 1 (fun _ _ => undef) (Nat.le_refl _) (fun hp => by simp at hp) (fun j hj => by simp at hj) (fun j hj => by simp at hj) (fun j hj => by simp at hj) (fun j hj => by simp at hj)
inductive WeakL : List D → List D → Prop
  | nil : WeakL [] []
  | cons {d d' : D} {ds ds' : List D} (h : Weak d' d) (hs : WeakL ds' ds) : WeakL (d' :: ds') (d :: ds)
theorem WeakL.refl : ∀ ds : List D, WeakL ds ds
  | [] => .nil
  | d :: ds => .cons (Weak.refl d) (WeakL.refl ds)
theorem WeakL.len {ds ds' : List D} (h : WeakL ds' ds) : ds'.length = ds.length := by
  induction h with
  | nil => rfl
  | cons _ _ ih => simp [ih]
theorem WeakL.get {ds ds' : List D} (h : WeakL ds' ds) : ∀ i (h1 : i < ds'.length) (h2 : i < ds.length), Weak (ds'[i]'h1) (ds[i]'h2) := by
  induction h with
  | nil => intro i h1; simp at h1
  | cons h hs ih =>
    intro i h1 h2
    cases i with
    | zero => exact h
    | succ i => exact ih i (by simpa using h1) (by simpa using h2)
theorem CallA.weak {P : Program} {f : FuncId} {ds ds' : List D} (hw : WeakL ds' ds) (h : CallA P G f ds H Q) : CallA P G f ds' H Q :=
  ⟨h.1, fun F c w vs h1 h2 h3 h4 => h.2 F c w vs h1 h2 (by rw [h3, hw.len]) fun i hi => hw.get i (by rw [hw.len]; exact hi) hi _ _ _ (h4 i (by rw [hw.len]; exact hi))⟩
theorem ruleWho_len (l : List Int) (i : Nat) : (ruleWho l i).length ≤ 8 := whoN_len _ _
theorem rulesF_len (l : List Int) (names : List (List UInt8)) (most : Int) (h : 0 ≤ most) : ((rulesF l names most).length : Int) ≤ most := by
  have := at_range l 0 (most + 1) (by omega)
  simp only [rulesF, List.length_map, List.length_range]; omega
theorem rulesF_mem {l : List Int} {names : List (List UInt8)} {most : Int} {r : Rule} (h : r ∈ rulesF l names most) : ∃ i, r = ruleF l names i := by
  obtain ⟨i, _, rfl⟩ := List.mem_map.1 h
  exact ⟨i, rfl⟩
theorem spoiltF_len {l : List Rule} {at_ how by_ : Int} : (spoiltF l at_ how by_).length ≤ l.length + 66 := by
  have b3 := around_range by_ 3 (by omega)
  cases l with
  | nil => simp [spoiltF]
  | cons r0 l' =>
    simp only [spoiltF]
    split
    · rw [List.length_append, List.length_replicate]; omega
    · simp
end Go.Proofs.Tryd
set_option maxRecDepth 100000
set_option linter.unusedSimpArgs false
set_option linter.unusedVariables false
set_option maxRecDepth 100000
set_option linter.unusedSimpArgs false
set_option linter.unusedVariables false
set_option maxRecDepth 100000
set_option linter.unusedSimpArgs false
set_option linter.unusedVariables false
namespace Go.Proofs.Tryd
open Go Go.DL
def ready (p : PS) : Prop := p.st = .what ∨ (p.st = .more ∧ p.r.n ≤ (p.r.who.length : Int))
end Go.Proofs.Tryd
set_option maxRecDepth 100000
set_option linter.unusedSimpArgs false
set_option linter.unusedVariables false
set_option maxRecDepth 100000
set_option maxHeartbeats 4000000
set_option linter.unusedSimpArgs false
set_option linter.unusedVariables false
set_option maxRecDepth 100000
set_option linter.unusedSimpArgs false
set_option linter.unusedVariables false
set_option maxRecDepth 100000
set_option maxHeartbeats 4000000
set_option linter.unusedSimpArgs false
set_option linter.unusedVariables false
namespace Go.Proofs.Tryd
open Go Go.DL
variable {G : Nat → D} {H : List O} {Q : D → List O → Prop}
def ruleB (n : Nat) (r : Rule) : Prop := (bl8 r.what).length ≤ n ∧ (bl8 r.mod).length ≤ n ∧ r.who.length ≤ n
theorem ruleB_mono {n m : Nat} {r : Rule} (h : ruleB n r) (hm : n ≤ m) : ruleB m r := ⟨Nat.le_trans h.1 hm, Nat.le_trans h.2.1 hm, Nat.le_trans h.2.2 hm⟩
theorem ruleB_len {n : Nat} {r : Rule} (h : ruleB n r) (hn : n ≤ 1099511627776) : ruleLen r := ⟨Nat.le_trans h.1 hn, Nat.le_trans h.2.1 hn, Nat.le_trans h.2.2 hn⟩
theorem getD_len {B : Nat} {L : List (List UInt8)} (h : ∀ x ∈ L, x.length ≤ B) (k : Nat) : (L.getD k []).length ≤ B := by
  rw [List.getD_eq_getElem?_getD]
  by_cases c : k < L.length
  · rw [List.getElem?_eq_getElem c, Option.getD_some]; exact h _ (List.getElem_mem c)
  · rw [List.getElem?_eq_none (by omega)]; simp
theorem ruleF_B {l : List Int} {names : List (List UInt8)} (hn : ∀ x ∈ names, x.length ≤ 8) (i : Nat) : ruleB 8 (ruleF l names i) := by
  refine ⟨?_, ?_, ruleWho_len l i⟩
  · show (bl8 (str _)).length ≤ 8
    rw [bl8_str]
    exact getD_len (by decide) _
  · show (bl8 (str _)).length ≤ 8
    rw [bl8_str]
    split
    · exact getD_len hn _
    · simp
theorem rulesF_B {l : List Int} {names : List (List UInt8)} {most : Int} (hn : ∀ x ∈ names, x.length ≤ 8) {r : Rule} (h : r ∈ rulesF l names most) : ruleB 8 r := by
  obtain ⟨i, rfl⟩ := rulesF_mem h
  exact ruleF_B hn i
theorem spRule_B {n : Nat} (hn : 17 ≤ n) {r : Rule} {how by_ : Int} (h : ruleB n r) : ruleB (n + 1) (spRule r how by_) := by
  obtain ⟨h1, h2, h3⟩ := h
  have k1 : (bl8 (str (spWhats.getD (around by_ 4).toNat []))).length ≤ n + 1 := by
    rw [bl8_str]; have := getD_len (B := 17) (L := spWhats) (by decide) (around by_ 4).toNat; omega
  have k2 : (bl8 (str (spMods.getD (around by_ 5).toNat []))).length ≤ n + 1 := by
    rw [bl8_str]; have := getD_len (B := 17) (L := spMods) (by decide) (around by_ 5).toNat; omega
  unfold spRule
  repeat' split
  all_goals refine ⟨?_, ?_, ?_⟩ <;> simp only [List.length_append, List.length_cons, List.length_nil] <;> first | omega | exact k1 | exact k2
theorem spoiltF_B {n : Nat} (hn : 17 ≤ n) {l : List Rule} {at_ how by_ : Int} (h : ∀ r ∈ l, ruleB n r) : ∀ r ∈ spoiltF l at_ how by_, ruleB (n + 1) r := by
  intro r hr
  cases l with
  | nil =>
    simp only [spoiltF, List.mem_cons, List.not_mem_nil, or_false] at hr
    subst hr
    refine ⟨?_, ?_, by simp⟩
    · show (bl8 (str _)).length ≤ n + 1
      rw [bl8_str]; simp; omega
    · show (bl8 (str _)).length ≤ n + 1
      rw [bl8_str]; simp
  | cons r0 l =>
    simp only [spoiltF] at hr
    split at hr
    · rcases List.mem_append.1 hr with hr | hr
      · exact ruleB_mono (h r hr) (by omega)
      · have := (List.mem_replicate.1 hr).2
        subst this
        exact ruleB_mono (h _ (.head _)) (by omega)
    · rcases List.mem_or_eq_of_mem_set hr with hr | hr
      · exact ruleB_mono (h r hr) (by omega)
      · subst hr
        refine spRule_B hn ?_
        rw [List.getD_eq_getElem?_getD]
        by_cases c : (around at_ ((r0 :: l).length : Int)).toNat < (r0 :: l).length
        · rw [List.getElem?_eq_getElem c, Option.getD_some]; exact h _ (List.getElem_mem c)
        · rw [List.getElem?_eq_none (by omega), Option.getD_none]; exact h _ (.head _)
theorem tdiv_I64 {n k : Int} (h : I64 n) (hk : 0 < k) : IntKind.i64.wrap (n.tdiv k) = n.tdiv k ∧ I64 (n.tdiv k) := by
  have h1 : I64 (n.tdiv k) := by
    have := Int.natAbs_tdiv_le_natAbs n k
    obtain ⟨a, b⟩ := h
    by_cases c : 0 ≤ n
    · have : 0 ≤ n.tdiv k := Int.tdiv_nonneg c (by omega)
      exact ⟨by omega, by omega⟩
    · have : n.tdiv k ≤ 0 := by
        have := Int.tdiv_nonneg (a := -n) (b := k) (by omega) (by omega)
        rw [Int.neg_tdiv] at this; omega
      exact ⟨by omega, by omega⟩
  exact ⟨by unfold I64 at h1; exact DL.wrap_id (by omega) (by omega), h1⟩
theorem rulesPrints_spec (hE : Env G) (l : List Int) (at_ how by_ : Int) (mod : List UInt8) (hl : ∀ n ∈ l, I64 n) (hll : l.length ≤ 1099511627776) (hat : I64 at_) (hho : I64 how) (hby : I64 by_) (hml : mod.length ≤ 1099511627776)
    (hQ : Q (dB true) H) : CallA Tryd.prog G 4 [.sl (ints l), dI at_, dI how, dI by_, dS (str mod)] H Q := by
  refine CallA.drop (s4 (Nat.le_of_ble_eq_true rfl) ?_)
  simp -dsimp -implicitDefEqProofs (maxSteps := 1000000) (disch := first | omega | (simp only [List.length_append, List.length_cons, List.length_nil]; omega) | (intros; simp only [ne_eq, reduceCtorEq, not_false_eq_true] <;> fail)) only [DL.R, Nat.reduceEqDiff, ↓reduceIte, reduceCtorEq, Int.reduceToNat, Int.reduceLE, Int.reduceLT, Nat.reduceLeDiff, Nat.reduceAdd, Nat.reduceMul, Int.reduceBNe, Int.reduceBEq, Int.cast_ofNat_Int, decide_true, decide_false, ne_eq, eq_self, implies_true, dc4_r0, dc4_r1, dc4_r2, dc4_r3, dc4_r4, dc4_r5, dc4_r6, dc4_r8, dc4_r9, dc4_r7, dc4_r10, dc4, DL.dI, DL.dB, DL.dS]
  refine rules_spec l hl hll [[109, 105, 108, 108], [109, 49]] (by simp) 5 (by omega) (by omega) ?_
  obtain ⟨x, hx⟩ : ∃ x, rulesF l [[109, 105, 108, 108], [109, 49]] 5 = x := ⟨_, rfl⟩
  have hxl : x.length ≤ 5 := by have := rulesF_len l [[109, 105, 108, 108], [109, 49]] 5 (by omega); rw [hx] at this; omega
  have hxB : ∀ r ∈ x, ruleB 17 r := fun r hr => ruleB_mono (rulesF_B (by decide) (hx ▸ hr)) (by omega)
  rw [hx]
  simp -dsimp -implicitDefEqProofs (maxSteps := 1000000) (disch := first | omega | (simp only [List.length_append, List.length_cons, List.length_nil]; omega) | (intros; simp only [ne_eq, reduceCtorEq, not_false_eq_true] <;> fail)) only [DL.R, Nat.reduceEqDiff, ↓reduceIte, reduceCtorEq, Int.reduceToNat, Int.reduceLE, Int.reduceLT, Nat.reduceLeDiff, Nat.reduceAdd, Nat.reduceMul, Int.reduceBNe, Int.reduceBEq, Int.cast_ofNat_Int, decide_true, decide_false, ne_eq, eq_self, implies_true, dc4_r0, dc4_r1, dc4_r2, dc4_r3, dc4_r4, dc4_r5, dc4_r6, dc4_r8, dc4_r9, dc4_r7, dc4_r10, dc4, DL.dI, DL.dB, DL.dS]
  refine spoilt_spec x at_ how by_ (by omega) (fun r hr => by have := (hxB r hr).2.2; omega) hat hho hby ?_
  obtain ⟨sp, hsp⟩ : ∃ z, spoiltF x at_ how by_ = z := ⟨_, rfl⟩
  have hspl : sp.length ≤ 71 := by have := spoiltF_len (l := x) (at_ := at_) (how := how) (by_ := by_); rw [hsp] at this; omega
  have hspB : ∀ r ∈ sp, ruleB 18 r := fun r hr => spoiltF_B (by omega) hxB r (hsp ▸ hr)
  rw [hsp]
  have hxr := rules_len x
  have hx4 : ∀ d ∈ rulesD x, d.leaves.length = 4 := by
    intro d hd; obtain ⟨r, _, rfl⟩ := List.mem_map.1 hd; rfl
  obtain ⟨w8, i8⟩ := tdiv_I64 (k := 8) hho (by omega)
  simp -dsimp -implicitDefEqProofs (maxSteps := 1000000) (disch := first | omega | (simp only [List.length_append, List.length_cons, List.length_nil]; omega) | (intros; simp only [ne_eq, reduceCtorEq, not_false_eq_true] <;> fail)) only [DL.R, Nat.reduceEqDiff, ↓reduceIte, reduceCtorEq, Int.reduceToNat, Int.reduceLE, Int.reduceLT, Nat.reduceLeDiff, Nat.reduceAdd, Nat.reduceMul, Int.reduceBNe, Int.reduceBEq, Int.cast_ofNat_Int, decide_true, decide_false, ne_eq, eq_self, implies_true, dc4_r0, dc4_r1, dc4_r2, dc4_r3, dc4_r4, dc4_r5, dc4_r6, dc4_r8, dc4_r9, dc4_r7, dc4_r10, dc4, DL.dI, DL.dB, DL.dS, w8, hxr, DL.set_lS, DL.get_lS, DL.get_ownS, DL.get_ownS0, DL.set_ownS, DL.set_ownS0, List.length_set]
  refine ⟨hx4, by omega, by omega, spoilt_spec sp by_ (how.tdiv 8) at_ (by omega) (fun r hr => by have := (hspB r hr).2.2; omega) hby i8 hat ?_⟩
  obtain ⟨sq, hsq⟩ : ∃ z, spoiltF sp by_ (how.tdiv 8) at_ = z := ⟨_, rfl⟩
  have hsql : sq.length ≤ 137 := by have := spoiltF_len (l := sp) (at_ := by_) (how := how.tdiv 8) (by_ := at_); rw [hsq] at this; omega
  have hsqB : ∀ r ∈ sq, ruleB 19 r := fun r hr => spoiltF_B (by omega) hspB r (hsq ▸ hr)
  rw [hsq]
  have hraw : rulesD x ++ [D.agg [D.lit (Value.string (str [97, 110, 121])), D.lit (Value.string (str mod)), D.lit (Value.int IntKind.i64 1), D.sl [D.lit (Value.int IntKind.i64 7)]]] = rulesD (x ++ [⟨str [97, 110, 121], str mod, 1, [7]⟩]) := by simp only [rulesD, List.map_append, List.map_cons, List.map_nil]; rfl
  rw [hraw]
  obtain ⟨rw_, hrw⟩ : ∃ z, x ++ [⟨str [97, 110, 121], str mod, 1, [7]⟩] = z := ⟨_, rfl⟩
  have hrwl : rw_.length ≤ 6 := by rw [← hrw]; simp; omega
  have hrwB : ∀ r ∈ rw_, ruleLen r := fun r hr => by
    rw [← hrw] at hr
    rcases List.mem_append.1 hr with hr | hr
    · exact ruleB_len (hxB r hr) (by omega)
    · have := List.mem_singleton.1 hr
      subst this
      refine ⟨?_, ?_, by simp⟩
      · show (bl8 (str _)).length ≤ _; rw [bl8_str]; simp
      · show (bl8 (str _)).length ≤ _; rw [bl8_str]; exact hml
  rw [hrw]
  simp -dsimp -implicitDefEqProofs (maxSteps := 1000000) (disch := first | omega | (simp only [List.length_append, List.length_cons, List.length_nil]; omega) | (intros; simp only [ne_eq, reduceCtorEq, not_false_eq_true] <;> fail)) only [DL.R, Nat.reduceEqDiff, ↓reduceIte, reduceCtorEq, Int.reduceToNat, Int.reduceLE, Int.reduceLT, Nat.reduceLeDiff, Nat.reduceAdd, Nat.reduceMul, Int.reduceBNe, Int.reduceBEq, Int.cast_ofNat_Int, decide_true, decide_false, ne_eq, eq_self, implies_true, dc4_r0, dc4_r1, dc4_r2, dc4_r3, dc4_r4, dc4_r5, dc4_r6, dc4_r8, dc4_r9, dc4_r7, dc4_r10, dc4, DL.dI, DL.dB, DL.dS]
  obtain ⟨allD, hall⟩ : ∃ z, [D.sl (rulesD x), D.sl (rulesD sp), D.sl (rulesD sq), D.sl (rulesD rw_), D.lit (.slice none 0 0)] = z := ⟨_, rfl⟩
  rw [hall]
  have hallL : allD.length = 5 := by rw [← hall]; rfl
  have hallG : ∀ i, i < 5 → ∃ d R, allD[i]? = some d ∧ d.leaves = [d] ∧ Weak d (.sl (rulesD R)) ∧ R.length ≤ 1099511627776 ∧ ∀ r ∈ R, ruleLen r := by
    intro i hi
    rw [← hall]
    match i, hi with
    | 0, _ => exact ⟨_, x, rfl, rfl, Weak.refl _, by omega, fun r hr => ruleB_len (hxB r hr) (by omega)⟩
    | 1, _ => exact ⟨_, sp, rfl, rfl, Weak.refl _, by omega, fun r hr => ruleB_len (hspB r hr) (by omega)⟩
    | 2, _ => exact ⟨_, sq, rfl, rfl, Weak.refl _, by omega, fun r hr => ruleB_len (hsqB r hr) (by omega)⟩
    | 3, _ => exact ⟨_, rw_, rfl, rfl, Weak.refl _, by omega, hrwB⟩
    | 4, _ => exact ⟨_, [], rfl, rfl, Weak.nil, by simp, by simp⟩
  refine for_i 15 5 (fun i s' H' => (∃ Gs, H' = H ++ Gs) ∧ s' 14 = .sl allD) ?_ ?_ ?_
  · simp -dsimp -implicitDefEqProofs (maxSteps := 1000000) (disch := first | omega | (simp only [List.length_append, List.length_cons, List.length_nil]; omega) | (intros; simp only [ne_eq, reduceCtorEq, not_false_eq_true] <;> fail)) only [DL.R, Nat.reduceEqDiff, ↓reduceIte, reduceCtorEq, Int.reduceToNat, Int.reduceLE, Int.reduceLT, Nat.reduceLeDiff, Nat.reduceAdd, Nat.reduceMul, Int.reduceBNe, Int.reduceBEq, Int.cast_ofNat_Int, decide_true, decide_false, ne_eq, eq_self, implies_true, DL.dI, DL.dB, DL.dS]
  · simp -dsimp -implicitDefEqProofs (maxSteps := 1000000) (disch := first | omega | (simp only [List.length_append, List.length_cons, List.length_nil]; omega) | (intros; simp only [ne_eq, reduceCtorEq, not_false_eq_true] <;> fail)) only [DL.R, Nat.reduceEqDiff, ↓reduceIte, reduceCtorEq, Int.reduceToNat, Int.reduceLE, Int.reduceLT, Nat.reduceLeDiff, Nat.reduceAdd, Nat.reduceMul, Int.reduceBNe, Int.reduceBEq, Int.cast_ofNat_Int, decide_true, decide_false, ne_eq, eq_self, implies_true, DL.dI, DL.dB, DL.dS]
    exact ⟨_, rfl⟩
  · rintro i s' H' hi ht ⟨⟨Gs, rfl⟩, h14⟩
    by_cases c5 : i < 5
    · have d1 : decide ((i : Int) < 5) = true := decide_eq_true (by omega)
      obtain ⟨d, R, hd, hdl, hdw, hR1, hR2⟩ := hallG i c5
      have hidx : ∀ K : D → Prop, onIdx allD (i : Int) K = K d := fun K => by
        apply propext
        constructor
        · rintro ⟨_, y, q1, q2⟩; simp only [Int.toNat_natCast] at q1; rw [hd] at q1; cases q1; exact q2
        · intro q; exact onIdx_i (by omega) (by simpa using hd) q
      simp -dsimp -implicitDefEqProofs (maxSteps := 1000000) (disch := first | omega | (simp only [List.length_append, List.length_cons, List.length_nil]; omega) | (intros; simp only [ne_eq, reduceCtorEq, not_false_eq_true] <;> fail)) only [DL.R, Nat.reduceEqDiff, ↓reduceIte, reduceCtorEq, Int.reduceToNat, Int.reduceLE, Int.reduceLT, Nat.reduceLeDiff, Nat.reduceAdd, Nat.reduceMul, Int.reduceBNe, Int.reduceBEq, Int.cast_ofNat_Int, decide_true, decide_false, ne_eq, eq_self, implies_true, dc4_r0, dc4_r1, dc4_r2, dc4_r3, dc4_r4, dc4_r5, dc4_r6, dc4_r8, dc4_r9, dc4_r7, dc4_r10, dc4, DL.dI, DL.dB, DL.dS, h14, ht, hallL, d1, hidx, hdl]
      refine callD_i (dB (validF R)) (fun Q h => by exact CallA.weak (ds := [.sl (rulesD R)]) (.cons hdw (WeakL.refl _)) (valid_spec hE R hR1 hR2 h)) ?_
      simp -dsimp -implicitDefEqProofs (maxSteps := 1000000) (disch := first | omega | (simp only [List.length_append, List.length_cons, List.length_nil]; omega) | (intros; simp only [ne_eq, reduceCtorEq, not_false_eq_true] <;> fail)) only [DL.R, Nat.reduceEqDiff, ↓reduceIte, reduceCtorEq, Int.reduceToNat, Int.reduceLE, Int.reduceLT, Nat.reduceLeDiff, Nat.reduceAdd, Nat.reduceMul, Int.reduceBNe, Int.reduceBEq, Int.cast_ofNat_Int, decide_true, decide_false, ne_eq, eq_self, implies_true, dc4_r0, dc4_r1, dc4_r2, dc4_r3, dc4_r4, dc4_r5, dc4_r6, dc4_r8, dc4_r9, dc4_r7, dc4_r10, dc4, DL.dI, DL.dB, DL.dS, h14, ht, hallL, d1, hidx, hdl]
      refine callD_i (dB (validF R)) (fun Q h => by exact CallA.weak (ds := [.sl (rulesD R)]) (.cons hdw (WeakL.refl _)) (rvalid_spec R hR1 hR2 h)) ?_
      simp -dsimp -implicitDefEqProofs (maxSteps := 1000000) (disch := first | omega | (simp only [List.length_append, List.length_cons, List.length_nil]; omega) | (intros; simp only [ne_eq, reduceCtorEq, not_false_eq_true] <;> fail)) only [DL.R, Nat.reduceEqDiff, ↓reduceIte, reduceCtorEq, Int.reduceToNat, Int.reduceLE, Int.reduceLT, Nat.reduceLeDiff, Nat.reduceAdd, Nat.reduceMul, Int.reduceBNe, Int.reduceBEq, Int.cast_ofNat_Int, decide_true, decide_false, ne_eq, eq_self, implies_true, dc4_r0, dc4_r1, dc4_r2, dc4_r3, dc4_r4, dc4_r5, dc4_r6, dc4_r8, dc4_r9, dc4_r7, dc4_r10, dc4, DL.dI, DL.dB, DL.dS, h14, ht, hallL, d1, hidx, hdl, beq_self_eq_true, Bool.not_true]
      refine callD_i (dS (str (printF R))) (fun Q h => by exact CallA.weak (ds := [.sl (rulesD R)]) (.cons hdw (WeakL.refl _)) (print_spec hE R hR1 hR2 h)) ?_
      simp -dsimp -implicitDefEqProofs (maxSteps := 1000000) (disch := first | omega | (simp only [List.length_append, List.length_cons, List.length_nil]; omega) | (intros; simp only [ne_eq, reduceCtorEq, not_false_eq_true] <;> fail)) only [DL.R, Nat.reduceEqDiff, ↓reduceIte, reduceCtorEq, Int.reduceToNat, Int.reduceLE, Int.reduceLT, Nat.reduceLeDiff, Nat.reduceAdd, Nat.reduceMul, Int.reduceBNe, Int.reduceBEq, Int.cast_ofNat_Int, decide_true, decide_false, ne_eq, eq_self, implies_true, dc4_r0, dc4_r1, dc4_r2, dc4_r3, dc4_r4, dc4_r5, dc4_r6, dc4_r8, dc4_r9, dc4_r7, dc4_r10, dc4, DL.dI, DL.dB, DL.dS, h14, ht, hallL, d1, hidx, hdl, beq_self_eq_true, Bool.not_true]
      refine callD_i (dS (str (printF R))) (fun Q h => by exact CallA.weak (ds := [.sl (rulesD R)]) (.cons hdw (WeakL.refl _)) (rprint_spec R hR1 hR2 h)) ?_
      simp -dsimp -implicitDefEqProofs (maxSteps := 1000000) (disch := first | omega | (simp only [List.length_append, List.length_cons, List.length_nil]; omega) | (intros; simp only [ne_eq, reduceCtorEq, not_false_eq_true] <;> fail)) only [DL.R, Nat.reduceEqDiff, ↓reduceIte, reduceCtorEq, Int.reduceToNat, Int.reduceLE, Int.reduceLT, Nat.reduceLeDiff, Nat.reduceAdd, Nat.reduceMul, Int.reduceBNe, Int.reduceBEq, Int.cast_ofNat_Int, decide_true, decide_false, ne_eq, eq_self, implies_true, dc4_r0, dc4_r1, dc4_r2, dc4_r3, dc4_r4, dc4_r5, dc4_r6, dc4_r8, dc4_r9, dc4_r7, dc4_r10, dc4, DL.dI, DL.dB, DL.dS, h14, ht, hallL, d1, hidx, hdl, beq_self_eq_true, Bool.not_true, DL.wrap_id]
      exact ⟨c5, ⟨_, rfl⟩⟩
    · have d1 : decide ((i : Int) < 5) = false := decide_eq_false (by omega)
      simp -dsimp -implicitDefEqProofs (maxSteps := 1000000) (disch := first | omega | (simp only [List.length_append, List.length_cons, List.length_nil]; omega) | (intros; simp only [ne_eq, reduceCtorEq, not_false_eq_true] <;> fail)) only [DL.R, Nat.reduceEqDiff, ↓reduceIte, reduceCtorEq, Int.reduceToNat, Int.reduceLE, Int.reduceLT, Nat.reduceLeDiff, Nat.reduceAdd, Nat.reduceMul, Int.reduceBNe, Int.reduceBEq, Int.cast_ofNat_Int, decide_true, decide_false, ne_eq, eq_self, implies_true, dc4_r0, dc4_r1, dc4_r2, dc4_r3, dc4_r4, dc4_r5, dc4_r6, dc4_r8, dc4_r9, dc4_r7, dc4_r10, dc4, DL.dI, DL.dB, DL.dS, h14, ht, hallL, d1]
      refine lives_spec hE ?_
      simp -dsimp -implicitDefEqProofs (maxSteps := 1000000) (disch := first | omega | (simp only [List.length_append, List.length_cons, List.length_nil]; omega) | (intros; simp only [ne_eq, reduceCtorEq, not_false_eq_true] <;> fail)) only [DL.R, Nat.reduceEqDiff, ↓reduceIte, reduceCtorEq, Int.reduceToNat, Int.reduceLE, Int.reduceLT, Nat.reduceLeDiff, Nat.reduceAdd, Nat.reduceMul, Int.reduceBNe, Int.reduceBEq, Int.cast_ofNat_Int, decide_true, decide_false, ne_eq, eq_self, implies_true, dc4_r0, dc4_r1, dc4_r2, dc4_r3, dc4_r4, dc4_r5, dc4_r6, dc4_r8, dc4_r9, dc4_r7, dc4_r10, dc4, DL.dI, DL.dB, DL.dS]
      exact ⟨_, rfl, .lit _, hQ⟩
end Go.Proofs.Tryd
set_option linter.unusedVariables false
set_option linter.unusedSimpArgs false
namespace Go.DL
open Go
def conc0 (W : World) : Conc := ⟨fun a => W.cell? a, fun _ => undef⟩
theorem relH0 {W : World} {F : Frm} (hF : F.w0 = W) : RelH F (conc0 W) [] W := by
  subst hF
  exact ⟨fun a v h => h, fun id o h => by simp at h, fun i j b hi => by simp at hi, fun i b hi => by simp at hi, ⟨rfl, rfl, rfl, Nat.le_refl _, fun _ _ => rfl⟩⟩
theorem frm0 {W : World} {e : TypeId} {fz : Nat × Nat} (h : W.heap[tabAt]? = some (.cells (Lib.pow10Tab.map fun z => Value.int .u64 z).toArray e fz)) :
    ∃ F : Frm, F.w0 = W ∧ ∀ b, b < W.heap.size → F.prot b :=
  ⟨⟨W, fun b => b < W.heap.size, fun _ h => h, (Array.getElem?_eq_some_iff.1 h).1, e, fz, h⟩, rfl, fun _ h => h⟩
theorem below0 {F : Frm} {W W' : World} (hF : F.w0 = W) (hp : ∀ b, b < W.heap.size → F.prot b) (h : Keeps F W') : RowKit.Below W.heap.size W W' := by
  subst hF
  exact ⟨h.os, h.tape, h.output, h.size, fun k hk => h.block k (hp k hk)⟩
section
variable {T : Type} {enc : TypeId × Value → T} {P : Program} {W : World} {sp : Nat → Bool} {held : Bool}
theorem rd_ints {t e : TypeId} {k : IntKind} {v : Value} {d : DataW T} {ps : List MemPlace} (ht : P.underlying t = some (.slice e)) (he : P.underlying e = some (.int k)) (hc : P.cellsOf e = 1)
    (h : DataW.Trod enc P W 0 sp held t v d ps) (hv : ∀ v', v.cells.toList = [v'] → v = v') :
    ∃ l : List Int, RdV (conc0 W) [] (.sl (l.map fun n => .lit (.int k n))) v ∧ (∀ n ∈ l, (Lit.int k n).wf = true) ∧ (l = [] ∨ ∃ sp, d = .slice (l.map fun n => .lit (.int k n)) sp) := by
  obtain ⟨fuel, h⟩ := h
  rcases Go.ChangeShapes.open_ints ht he hc h with ⟨h1, -⟩ | ⟨a, len, cap, zs, h1, -, hl, -, hz, hx, hcell, hwf⟩
  · refine ⟨[], ?_, by simp, Or.inl rfl⟩
    rw [hv _ h1]
    exact .sl [] none ⟨0, 0, none⟩ 0 1 (fun _ _ => undef) (by simp) (by simp) (by simp) (by simp) (by simp) (by simp)
  · have hle : len ≤ zs.length := by rw [hz]; split <;> omega
    refine ⟨zs.take len, ?_, fun n hn => hwf n (List.mem_of_mem_take hn), Or.inr ⟨Go.ChangeShapes.lits k (zs.drop len), ?_⟩⟩
    · rw [hv _ h1]
      have hlen : (zs.take len).length = len := by simp; omega
      have key := RdV.sl (c := conc0 W) (H := []) ((zs.take len).map fun n => .lit (.int k n)) (some a) a cap 1 (fun j _ => .int k (zs.getD j 0)) (by simp; omega) (fun _ => rfl)
        (by intro j hj; simp [D.leaves]) (by intro j hj i hi; simp [D.leaves] at hi ⊢; rfl)
        (by
          intro j hj i hi
          have hi0 : i = 0 := by simp [D.leaves] at hi; omega
          subst hi0
          show W.cell? _ = _
          have := hcell j (by simp at hj; omega)
          simpa using this)
        (by
          intro j hj i hi
          have hi0 : i = 0 := by simp [D.leaves] at hi; omega
          subst hi0
          have hj' : j < zs.length := by simp at hj; omega
          have : zs.getD j 0 = zs[j] := by simp [List.getD, hj']
          rw [this]
          simp [D.leaves]
          exact .lit _)
      rw [List.length_map, hlen] at key
      exact key
    · have := congrArg Prod.fst hx
      simpa [Go.ChangeShapes.lits] using this
theorem cells_of_strs {fuel n : Nat} {t e : TypeId} {cs : List Value} {ls : List (List UInt8)} {p : List MemPlace} (ht : P.underlying t = some (.array n e)) (he : P.underlying e = some .string)
    (hce : P.cellsOf e = 1) (hct : P.cellsOf t = n) (h : DataW.trod enc P W 0 sp held fuel t cs = some (.agg (ls.map fun l => .lit (.string l)), p)) :
    cs.length = ls.length ∧ ∀ i (hi : i < ls.length), cs[i]? = some (.string (str ls[i])) := by
  obtain ⟨xs, m, rfl, hx, hlen, hn, hel⟩ := DataW.trod_array ht h
  have hxs : xs.map (·.1) = ls.map fun l => (DataW.lit (.string l) : DataW T) := by
    have := congrArg Prod.fst hx
    simpa using this.symm
  have hl : ls.length = n := by have := congrArg List.length hxs; simp at this; omega
  refine ⟨by omega, fun i hi => ?_⟩
  have h1 := hel i (by omega)
  rw [hce, Nat.mul_one] at h1
  have hxi : i < xs.length := by omega
  rw [List.getElem?_eq_getElem hxi] at h1
  obtain ⟨s, hc, hx1, _⟩ := DataW.trod_string he h1
  have h2 := congrArg (·[0]?) hc
  have h3 : cs[i]? = some (.string s) := by simpa [List.getElem?_take, List.getElem?_drop] using h2
  have h4 := congrArg (·[i]?) hxs
  simp only [List.getElem?_map, List.getElem?_eq_getElem hxi, List.getElem?_eq_getElem hi, Option.map_some, hx1, Option.some.injEq, DataW.lit.injEq, Lit.string.injEq] at h4
  rw [h3]
  congr 2
  rw [← h4]
  simp [str]
theorem laid_mem {l : List (String × DataW Unit)} : ∀ {ps : List MemPlace}, DataW.LaidVars P W l ps → ∀ n d, (n, d) ∈ l →
    ∃ g t cs fuel p, P.globalNamed n = some g ∧ (P.globals[g]?).map (·.type) = some t ∧ W.var? P n = some cs ∧ DataW.trod (fun _ => ()) P W 0 (fun _ => true) false fuel t cs.toList = some (d, p) := by
  induction l with
  | nil => intro ps _ n d h; cases h
  | cons x r ih =>
    intro ps h n d hm
    obtain ⟨n', d'⟩ := x
    obtain ⟨g, t, cs, fuel, p, q, h1, h2, h3, h4, h5, -⟩ := h
    cases hm with
    | head => exact ⟨g, t, cs, fuel, p, h1, h2, h3, h4⟩
    | tail _ hm => exact ih h5 n d hm
theorem laid_at {l : List (String × DataW Unit)} (h : laidMetH P l W) {n : String} {d : DataW Unit} (hm : (n, d) ∈ l) (hd : d.handleName?.isNone = true) {g : Nat} {t : TypeId} (hg : P.globalNamed n = some g) (ht : (P.globals[g]?).map (·.type) = some t) :
    ∃ cs fuel p, W.var? P n = some cs ∧ DataW.trod (fun _ => ()) P W 0 (fun _ => true) false fuel t cs.toList = some (d, p) := by
  obtain ⟨⟨ps, h1, -⟩, -⟩ := laidMetH_iff.1 h
  obtain ⟨g', t', cs, fuel, p, k1, k2, k3, k4⟩ := laid_mem h1 n d (List.mem_filter.2 ⟨hm, hd⟩)
  rw [hg] at k1
  cases k1
  rw [ht] at k2
  cases k2
  exact ⟨cs, fuel, p, k3, k4⟩
theorem rd_strs {l : List (String × DataW Unit)} (h : laidMetH P l W) {n : String} {ls : List (List UInt8)} (hm : (n, DataW.agg (ls.map fun l => .lit (.string l))) ∈ l) {g : Nat} {t e : TypeId} {m : Nat}
    (hg : P.globalNamed n = some g) (hty : (P.globals[g]?).map (·.type) = some t) (ht : P.underlying t = some (.array m e)) (he : P.underlying e = some .string) (hce : P.cellsOf e = 1) (hct : P.cellsOf t = m) :
    RdV (conc0 W) [] (.el (ls.map fun x => .lit (.string (str x)))) (.pointer (some ⟨g, 0, none⟩)) := by
  obtain ⟨cs, fuel, p, hv, hd⟩ := laid_at h hm rfl hg hty
  obtain ⟨hl, hc⟩ := cells_of_strs ht he hce hct hd
  refine .el _ _ (fun i => .string (str (ls.getD i []))) (by intro i hi; simp; rfl) ?_ ?_
  · intro i hi
    show W.cell? _ = _
    have hi' : i < ls.length := by simpa using hi
    have h1 := World.var?_cell hg hv i
    have h2 := hc i hi'
    have ha : (⟨g, 0, none⟩ : Addr).add i = ⟨g, i, none⟩ := by cases i <;> simp [Addr.add]
    rw [ha, h1]
    simpa [List.getD, hi'] using h2
  · intro i hi
    have hi' : i < ls.length := by simpa using hi
    simp [List.getD, hi']
    exact .lit _
theorem rd_err {l : List (String × DataW Unit)} (h : laidMetH P l W) {n nm : String} {d : DataW Unit} (hm : (n, DataW.iface nm d) ∈ l) (hd : (DataW.iface nm d).handleName?.isNone = true) {g : Nat} {t : TypeId} {ms : Array (String × TypeId)}
    (hg : P.globalNamed n = some g) (hty : (P.globals[g]?).map (·.type) = some t) (ht : P.underlying t = some (.interface ms)) :
    RdV (conc0 W) [] (.el [.nn]) (.pointer (some ⟨g, 0, none⟩)) := by
  obtain ⟨cs, fuel, p, hv, hr⟩ := laid_at h hm hd hg hty
  obtain ⟨f', u, v, hc, -, -⟩ := iface_of_trod ht hr
  refine .el _ _ (fun _ => .iface u v) (by intro i hi; simp at hi; subst hi; rfl) ?_ ?_
  · intro i hi
    have hi0 : i = 0 := by simpa using hi
    subst hi0
    have h1 := World.var?_cell hg hv 0
    show W.cell? ⟨g, 0, none⟩ = _
    rw [h1, ← Array.getElem?_toList, hc]
    rfl
  · intro i hi
    have hi0 : i = 0 := by simpa using hi
    subst hi0
    exact .nn u v
theorem rd_tab {l : List (String × DataW Unit)} (h : laidMetH P l W) {n : String} {k : IntKind} {zs : List Int} (hm : (n, Lib.tabData k zs) ∈ l) {g : Nat} {t e : TypeId} {m : Nat}
    (hg : P.globalNamed n = some g) (hty : (P.globals[g]?).map (·.type) = some t) (ht : P.underlying t = some (.array m e)) (he : P.underlying e = some (.int k)) (hce : P.cellsOf e = 1) (hct : P.cellsOf t = m) :
    ∃ e fz, W.heap[g]? = some (.cells (zs.map fun z => Value.int k z).toArray e fz) := by
  obtain ⟨cs, fuel, p, hv, hd⟩ := laid_at h hm rfl hg hty
  have := Lib.cells_of_tab ht he hce hct hd
  have hcs : cs = (zs.map fun z => Value.int k z).toArray := by rw [← this]
  simp only [World.var?, hg, Option.bind_some] at hv
  split at hv
  · rename_i c e' f' hh
    simp only [Option.some.injEq] at hv
    exact ⟨e', f', by rw [hh, hv, hcs]⟩
  · cases hv
end
end Go.DL
namespace Go.DL
open Go
theorem name_inj {a b : String} (h : a.toUTF8.data.toList = b.toUTF8.data.toList) : a = b :=
  String.toByteArray_inj.1 (by
    have h1 : a.toUTF8.data = b.toUTF8.data := Array.toList_inj.1 h
    have h2 : ∀ x y : ByteArray, x.data = y.data → x = y := by rintro ⟨x⟩ ⟨y⟩ rfl; rfl
    exact h2 _ _ h1)
section
variable {P : Program} {W : World} {sp : Nat → Bool}
theorem fn_cell {t : TypeId} {ps rs : Array TypeId} {vd : Bool} {fuel : Nat} {cs : List Value} {b : List UInt8} {s : String} {f : FuncId} {q : List MemPlace} (ht : P.underlying t = some (.func ps rs vd)) (hb : b = s.toUTF8.data.toList) (hne : b ≠ []) (hf : P.funcNamed s = some f)
    (h : DataW.trod (funcToken P) P W 0 sp true fuel t cs = some (.held b, q)) : cs = [.func (.func f) #[] #[]] := by
  obtain ⟨v, rfl, hv, hy⟩ := RowKit.func_of_trod ht h
  have h1 : RowKit.veil (funcToken P) t v = .held b := (congrArg Prod.fst hy).symm
  have h2 : funcToken P (t, v) = b := by
    cases v <;> simp only [RowKit.IsFunc] at hv
    · simpa only [RowKit.veil, DataW.held.injEq] using h1
    · cases h1
  obtain ⟨x, r, rfl⟩ : ∃ x r, b = x :: r := by cases b with | nil => exact absurd rfl hne | cons x r => exact ⟨x, r, rfl⟩
  obtain ⟨f', fn, rfl, _, hn, hs⟩ := funcToken_tells h2
  rw [name_inj (hs.trans hb)] at hn
  rw [hn] at hf
  cases hf
  rfl
theorem rd_funcs22 {l : List (String × DataW Unit)} (h : laidMetH P l W) {n : String} {b1 b2 b3 b4 : List UInt8} {s1 s2 s3 s4 : String} {f1 f2 f3 f4 : FuncId} {g : Nat} {t u e : TypeId} {ps rs : Array TypeId} {vd : Bool}
    (hm : (n, DataW.iface "func table" (.agg [.agg [.iface "func" (.lit (.string b1)), .iface "func" (.lit (.string b2))], .agg [.iface "func" (.lit (.string b3)), .iface "func" (.lit (.string b4))]])) ∈ l)
    (hg : P.globalNamed n = some g) (hty : (P.globals[g]?).map (·.type) = some t) (ht : P.underlying t = some (.array 2 u)) (hu : P.underlying u = some (.array 2 e)) (he : P.underlying e = some (.func ps rs vd)) (ce : P.cellsOf e = 1) (cu : P.cellsOf u = 2) (ct : P.cellsOf t = 4)
    (e1 : b1 = s1.toUTF8.data.toList) (e2 : b2 = s2.toUTF8.data.toList) (e3 : b3 = s3.toUTF8.data.toList) (e4 : b4 = s4.toUTF8.data.toList) (n1 : b1 ≠ []) (n2 : b2 ≠ []) (n3 : b3 ≠ []) (n4 : b4 ≠ [])
    (k1 : P.funcNamed s1 = some f1) (k2 : P.funcNamed s2 = some f2) (k3 : P.funcNamed s3 = some f3) (k4 : P.funcNamed s4 = some f4) :
    RdV (conc0 W) [] (.el [.fn f1 [], .fn f2 [], .fn f3 [], .fn f4 []]) (.pointer (some ⟨g, 0, none⟩)) := by
  obtain ⟨g', t', cs, fuel, p, q1, q2, q3, q4⟩ := h.funcs hm
  rw [hg] at q1; cases q1
  rw [hty] at q2; cases q2
  have hout : (DataW.agg [.agg [.iface "func" (.lit (.string b1)), .iface "func" (.lit (.string b2))], .agg [.iface "func" (.lit (.string b3)), .iface "func" (.lit (.string b4))]] : DataW Unit).funcsOut = .agg [.agg [.held b1, .held b2], .agg [.held b3, .held b4]] := by
    obtain ⟨x1, r1, rfl⟩ : ∃ x r, b1 = x :: r := by cases b1 with | nil => exact absurd rfl n1 | cons x r => exact ⟨x, r, rfl⟩
    obtain ⟨x2, r2, rfl⟩ : ∃ x r, b2 = x :: r := by cases b2 with | nil => exact absurd rfl n2 | cons x r => exact ⟨x, r, rfl⟩
    obtain ⟨x3, r3, rfl⟩ : ∃ x r, b3 = x :: r := by cases b3 with | nil => exact absurd rfl n3 | cons x r => exact ⟨x, r, rfl⟩
    obtain ⟨x4, r4, rfl⟩ : ∃ x r, b4 = x :: r := by cases b4 with | nil => exact absurd rfl n4 | cons x r => exact ⟨x, r, rfl⟩
    simp [DataW.funcsOut, DataW.funcsOutAll]
  rw [hout] at q4
  obtain ⟨xs, m, rfl, hx, hlen, hn, hel⟩ := DataW.trod_array ht q4
  obtain ⟨y0, y1, rfl⟩ : ∃ a b, xs = [a, b] := by
    match xs, hn with
    | [a, b], _ => exact ⟨a, b, rfl⟩
  simp only [List.map_cons, List.map_nil, Prod.mk.injEq, DataW.agg.injEq, List.cons.injEq, and_true] at hx
  obtain ⟨⟨z0, z1⟩, -⟩ := hx
  have r0 := hel 0 (by decide)
  have r1 := hel 1 (by decide)
  rw [cu] at r0 r1
  have row : ∀ (c : List Value) (y : DataW (List UInt8) × List MemPlace) (a b : List UInt8) (sa sb : String) (fa fb : FuncId), DataW.trod (funcToken P) P W 0 (fun _ => true) true m u c = some y → DataW.agg [.held a, .held b] = y.1 →
      a = sa.toUTF8.data.toList → b = sb.toUTF8.data.toList → a ≠ [] → b ≠ [] → P.funcNamed sa = some fa → P.funcNamed sb = some fb → c = [.func (.func fa) #[] #[], .func (.func fb) #[] #[]] := by
    intro c y a b sa sb fa fb hr hy ea eb na nb ka kb
    obtain ⟨ys, m', rfl, hx, hlen, hn, hel⟩ := DataW.trod_array hu hr
    obtain ⟨w0, w1, rfl⟩ : ∃ a b, ys = [a, b] := by
      match ys, hn with
      | [a, b], _ => exact ⟨a, b, rfl⟩
    rw [hx] at hy
    simp only [List.map_cons, List.map_nil, DataW.agg.injEq, List.cons.injEq, and_true] at hy
    have u0 := hel 0 (by decide)
    have u1 := hel 1 (by decide)
    rw [ce] at u0 u1
    have v0 := fn_cell he ea na ka (q := w0.2) (by rw [hy.1]; exact u0)
    have v1 := fn_cell he eb nb kb (q := w1.2) (by rw [hy.2]; exact u1)
    rw [cu] at hlen
    match c, hlen with
    | [c0, c1], _ =>
      simp at v0 v1
      rw [v0, v1]
  have a0 := row _ y0 b1 b2 s1 s2 f1 f2 r0 z0 e1 e2 n1 n2 k1 k2
  have a1 := row _ y1 b3 b4 s3 s4 f3 f4 r1 z1 e3 e4 n3 n4 k3 k4
  rw [ct] at hlen
  have hcs : cs.toList = [.func (.func f1) #[] #[], .func (.func f2) #[] #[], .func (.func f3) #[] #[], .func (.func f4) #[] #[]] := by
    match h : cs.toList, hlen with
    | [c0, c1, c2, c3], _ =>
      rw [h] at a0 a1
      simp at a0 a1
      rw [a0.1, a0.2, a1.1, a1.2]
  have cell : ∀ i, W.cell? ⟨g, i, none⟩ = cs.toList[i]? := fun i => by rw [World.var?_cell hg q3 i, Array.getElem?_toList]
  rw [hcs] at cell
  refine .el _ _ (fun i => match i with | 0 => .func (.func f1) #[] #[] | 1 => .func (.func f2) #[] #[] | 2 => .func (.func f3) #[] #[] | _ => .func (.func f4) #[] #[]) ?_ ?_ ?_
  · intro i hi
    match i, hi with
    | 0, _ => rfl
    | 1, _ => rfl
    | 2, _ => rfl
    | 3, _ => rfl
  · intro i hi
    match i, hi with
    | 0, _ => exact cell 0
    | 1, _ => exact cell 1
    | 2, _ => exact cell 2
    | 3, _ => exact cell 3
  · intro i hi
    match i, hi with
    | 0, _ => exact .fn f1 [] #[] rfl (by simp)
    | 1, _ => exact .fn f2 [] #[] rfl (by simp)
    | 2, _ => exact .fn f3 [] #[] rfl (by simp)
    | 3, _ => exact .fn f4 [] #[] rfl (by simp)
end
end Go.DL
set_option maxRecDepth 100000
set_option linter.unusedVariables false
namespace Go.Proofs.Tryd
open Go Go.DL Go.Proofs.YtoehhfhjnjfgiaaDoor
def glob : Nat → D
  | 0 => .el (strs kindsL)
  | 1 => .el (strs kwL)
  | 2 => kindsD
  | 3 => .el (strs signsL)
  | 6 => .el [.nn]
  | _ => .junk
theorem env_glob : Env glob := ⟨rfl, rfl, rfl, rfl, Or.inl rfl⟩
def laidL : List (String × DataW Unit) := Rows.rulesEnoughUptoRow.laid
theorem g0 : Tryd.prog.globalNamed "splicery/rules.kinds" = some 0 := by kernel_rfl
theorem g1 : Tryd.prog.globalNamed "splicery/lex.keywords" = some 1 := by kernel_rfl
theorem g2 : Tryd.prog.globalNamed "splicery/lex.kinds" = some 2 := by kernel_rfl
theorem g3 : Tryd.prog.globalNamed "splicery/lex.signs" = some 3 := by kernel_rfl
theorem g4 : Tryd.prog.globalNamed "internal/strconv.uint64pow10" = some 4 := by kernel_rfl
theorem g6 : Tryd.prog.globalNamed "strconv.ErrSyntax" = some 6 := by kernel_rfl
theorem ty0 : (Tryd.prog.globals[0]?).map (·.type) = some 90 := by kernel_rfl
theorem ty1 : (Tryd.prog.globals[1]?).map (·.type) = some 92 := by kernel_rfl
theorem ty2 : (Tryd.prog.globals[2]?).map (·.type) = some 97 := by kernel_rfl
theorem ty3 : (Tryd.prog.globals[3]?).map (·.type) = some 98 := by kernel_rfl
theorem ty4 : (Tryd.prog.globals[4]?).map (·.type) = some 119 := by kernel_rfl
theorem ty6 : (Tryd.prog.globals[6]?).map (·.type) = some 82 := by kernel_rfl
theorem c3 : Tryd.prog.cellsOf 3 = 1 := by kernel_rfl
theorem c9 : Tryd.prog.cellsOf 9 = 1 := by kernel_rfl
theorem c90 : Tryd.prog.cellsOf 90 = 14 := by kernel_rfl
theorem c91 : Tryd.prog.cellsOf 91 = 1 := by kernel_rfl
theorem c92 : Tryd.prog.cellsOf 92 = 27 := by kernel_rfl
theorem c96 : Tryd.prog.cellsOf 96 = 2 := by kernel_rfl
theorem c97 : Tryd.prog.cellsOf 97 = 4 := by kernel_rfl
theorem c98 : Tryd.prog.cellsOf 98 = 18 := by kernel_rfl
theorem c106 : Tryd.prog.cellsOf 106 = 1 := by kernel_rfl
theorem c119 : Tryd.prog.cellsOf 119 = 20 := by kernel_rfl
theorem n52 : Tryd.prog.funcNamed "splicery/lex.letter" = some 52 := by kernel_rfl
theorem n108 : Tryd.prog.funcNamed "splicery/lex.either" = some 108 := by kernel_rfl
theorem n109 : Tryd.prog.funcNamed "splicery/lex.digit" = some 109 := by kernel_rfl
theorem glob_rd {W : World} (h : laidMetH Tryd.prog laidL W) (g : Nat) : RdV (conc0 W) [] (glob g) (.pointer (some ⟨g, 0, none⟩)) := by
  match g with
  | 0 => exact rd_strs (ls := kindsL) h (by simp [laidL, Rows.rulesEnoughUptoRow]; rfl) g0 ty0 Tryd.underlying90 Tryd.underlying9 c9 c90
  | 1 => exact rd_strs (ls := kwL) h (by simp [laidL, Rows.rulesEnoughUptoRow]; rfl) g1 ty1 Tryd.underlying92 Tryd.underlying9 c9 c92
  | 2 => exact rd_funcs22 h (s1 := "splicery/lex.letter") (s2 := "splicery/lex.either") (s3 := "splicery/lex.digit") (s4 := "splicery/lex.digit") (by simp [laidL, Rows.rulesEnoughUptoRow]; rfl) g2 ty2 Tryd.underlying97 Tryd.underlying96 Tryd.underlying91 c91 c96 c97 (by kernel_rfl) (by kernel_rfl) (by kernel_rfl) (by kernel_rfl) (by simp) (by simp) (by simp) (by simp) n52 n108 n109 n109
  | 3 => exact rd_strs (ls := signsL) h (by simp [laidL, Rows.rulesEnoughUptoRow]; rfl) g3 ty3 Tryd.underlying98 Tryd.underlying9 c9 c98
  | 4 => exact .junk _
  | 5 => exact .junk _
  | 6 => exact rd_err h (by simp [laidL, Rows.rulesEnoughUptoRow]; rfl) rfl g6 ty6 Tryd.underlying82
  | _ + 7 => exact .junk _
theorem tab_rd {W : World} (h : laidMetH Tryd.prog laidL W) : ∃ e fz, W.heap[tabAt]? = some (.cells (Lib.pow10Tab.map fun z => Value.int .u64 z).toArray e fz) :=
  rd_tab h (n := "internal/strconv.uint64pow10") (k := .u64) (zs := Lib.pow10Tab) (by simp [laidL, Rows.rulesEnoughUptoRow]; rfl) g4 ty4 Tryd.underlying119 Tryd.underlying106 c106 c119
end Go.Proofs.Tryd
set_option linter.unusedVariables false
set_option linter.unusedSimpArgs false
namespace Go.DL
open Go Go.ChangeShapes Go.RowKit
section
variable {T : Type} {enc : TypeId × Value → T} {P : Program} {W W' : World}
theorem trodAll_stays (hl : laidOutB P = true) (hb : RowKit.Below W.heap.size W W') {sp : Nat → Bool} : ∀ {ts : List TypeId} {vs : List Value} {ds : List (DataW T)} {ps : List MemPlace},
    (∀ t ∈ ts, P.readableRec t = true ∧ t < P.types.size) → DataW.TrodAll enc P W 0 (fun _ => true) true ts vs ds ps → (∀ x ∈ ps, x.block < W.heap.size) → (∀ x ∈ ps, sp x.block = true) → DataW.TrodAll enc P W' 0 sp true ts vs ds ps
  | [], vs, ds, ps, _, h, _, _ => by
    obtain ⟨rfl, rfl, rfl⟩ := trodAll_nil h
    exact rfl
  | t :: ts, vs, ds, ps, hr, h, hlt, hsp => by
    obtain ⟨v, vs', d, ds', p, q, rfl, rfl, rfl, h1, h2⟩ := trodAll_cons h
    have ht := hr t (.head _)
    exact ⟨p, q, WideElems.Trod_stays hl ht.1 ht.2 h1 (fun x hx => hb.same (hlt x (List.mem_append_left _ hx))) (fun x hx => hsp x (List.mem_append_left _ hx)),
      trodAll_stays hl hb (fun u hu => hr u (.tail _ hu)) h2 (fun x hx => hlt x (List.mem_append_right _ hx)) (fun x hx => hsp x (List.mem_append_right _ hx)), rfl⟩
theorem post_of_below {f : Func} {s : ChangeSpec} {apart fresh handsOn again : Bool} {args : Array Value} {v : Value} {ds : List (DataW T)} {before : List MemPlace} (hv : s.vars = [])
    (hl : laidOutB P = true) (hr : ∀ t ∈ f.params.toList, P.readableRec t = true ∧ t < P.types.size)
    (hW : DataW.Whole enc P f.params.toList s.vars apart W args.toList ds [] before) (hs : (s.fn T ds).args = ds) (hsv : (s.fn T ds).vars = [])
    (hres : ∀ (b : Nat) (sp : Nat → Bool) (hd : Bool), DataW.TrodAll enc P W' b sp hd f.resultTypes.toList (v.resultList f.resultTypes.size) (s.fn T ds).results [])
    (hb : RowKit.Below W.heap.size W W')
    (hok : ∀ (j : Nat) (t : TypeId) (r : Value), f.resultTypes[j]? = some t → (v.resultList f.resultTypes.size)[j]? = some r → Value.okWide P W' .any 0 t r) :
    s.post enc P f apart fresh handsOn again W args v W' := by
  have hlt : ∀ x ∈ before, x.block < W.heap.size := fun x hx => hW.lt x hx
  have hW0 := hW
  obtain ⟨p, q, hA, hV, rfl, hz, hn⟩ := hW
  rw [hv] at hV
  obtain ⟨-, rfl⟩ := trodVars_none hV
  have hargs : ∀ sp : Nat → Bool, (∀ x ∈ p ++ [], sp x.block = true) → DataW.TrodAll enc P W' 0 sp true f.params.toList args.toList (s.fn T (ds ++ [])).args p := by
    intro sp hsp
    rw [List.append_nil, hs]
    exact trodAll_stays hl hb hr hA (fun x hx => hlt x (List.mem_append_left _ hx)) (fun x hx => hsp x (List.mem_append_left _ hx))
  have hvars : ∀ sp : Nat → Bool, (∀ x ∈ p ++ [], sp x.block = true) → DataW.TrodVars enc P W' sp s.vars (s.fn T (ds ++ [])).vars [] := by
    intro sp _
    rw [List.append_nil, hsv, hv]
    exact rfl
  have hres' : ∀ (b : Nat) (sp : Nat → Bool) (hd : Bool), DataW.TrodAll enc P W' b sp hd f.resultTypes.toList (v.resultList f.resultTypes.size) (s.fn T (ds ++ [])).results [] := by
    rw [List.append_nil]; exact hres
  refine ⟨ds, [], p ++ [], [], p, [], hW0, hres' _ _ _, hargs (fun b => decide (b < W.heap.size)) (fun x hx => by simpa using hlt x hx), hvars (fun b => decide (b < W.heap.size)) (fun x hx => by simpa using hlt x hx), hb.frame _, fun _ => ?_⟩
  refine ⟨hok, _, _, ([] ++ p) ++ [], ⟨[] ++ p, [], trodAll_append (hargs _ (fun _ _ => rfl)) (hres' _ _ _), hvars _ (fun _ _ => rfl), rfl, ?_, ?_⟩, ?_⟩
  · intro b off hp
    have hp' : MemPlace.cell b off ∈ p ++ [] := by simpa using hp
    rw [hb.frozen (p := ⟨b, off, none⟩) (hlt _ hp')]
    exact hz b off hp'
  · intro ha
    simpa using hn ha
  · intro x hx _
    simpa using hx
theorem law_post {G : Nat → D} {f : FuncId} {fn : Func} {s : ChangeSpec} {apart fresh handsOn again : Bool} {args : Array Value} {ds : List (DataW T)} {before : List MemPlace} {cds : List D} {t4 : TypeId}
    (hc : CallA P G f cds [] (fun d _ => d = dB true)) (hG : ∀ g, RdV (conc0 W) [] (G g) (.pointer (some ⟨g, 0, none⟩)))
    (htab : ∃ e fz, W.heap[tabAt]? = some (.cells (Lib.pow10Tab.map fun z => Value.int .u64 z).toArray e fz))
    (hn : args.size = cds.length) (hr : ∀ i (h : i < cds.length), RdV (conc0 W) [] (cds[i]'h) (args.getD i undef))
    (hv : s.vars = []) (hl : laidOutB P = true) (hpr : ∀ t ∈ fn.params.toList, P.readableRec t = true ∧ t < P.types.size)
    (hW : DataW.Whole enc P fn.params.toList s.vars apart W args.toList ds [] before) (hs : s.fn T ds = { results := [.lit (.bool true)], args := ds })
    (hrt : fn.resultTypes = #[t4]) (hbool : P.underlying t4 = some .bool) :
    Calls P f args W fun e W' => ∃ v, e = .returned v ∧ s.post enc P fn apart fresh handsOn again W args v W' := by
  obtain ⟨e, fz, htab⟩ := htab
  obtain ⟨F, hF, hp⟩ := frm0 htab
  refine (hc.2 F (conc0 W) W args (relH0 hF) hG hn hr).mono ?_
  rintro e W' ⟨v, d, c', H', rfl, hRel, -, hrd, rfl⟩
  cases hrd
  refine ⟨_, rfl, ?_⟩
  refine post_of_below hv hl hpr hW (by rw [hs]) (by rw [hs]) ?_ (below0 hF hp hRel.keeps) (ok_one (by rw [hrt]) rfl (okWide_bool_mk hbool _))
  intro b sp hd
  rw [hs, hrt]
  exact trodAll_mk1 (shut_bool hbool true)
end
end Go.DL
set_option linter.unusedVariables false
set_option linter.unusedSimpArgs false
namespace Go.DL
open Go Go.ChangeShapes Go.RowKit Go.WideShapes
section
variable {T : Type} {enc : TypeId × Value → T} {P : Program} {W : World} {sp : Nat → Bool} {held : Bool}
theorem wf_i64 {n : Int} (hw : (Lit.int .i64 n).wf = true) : -9223372036854775808 ≤ n ∧ n ≤ 9223372036854775807 := by
  simp only [Lit.wf, Bool.and_eq_true, decide_eq_true_eq] at hw
  exact hw
theorem op_int {r : Reach} {b0 : Nat} {t : TypeId} {v : Value} {d : DataW T} {ps : List MemPlace} (ht : P.underlying t = some (.int .i64)) (hval : Value.okWide P W r b0 t v) (hd : DataW.Trod enc P W 0 sp held t v d ps) :
    ∃ n : Int, RdV (conc0 W) [] (dI n) v ∧ (-9223372036854775808 ≤ n ∧ n ≤ 9223372036854775807) := by
  obtain ⟨n, rfl, -, -, hw⟩ := open_int ht hval hd
  exact ⟨n, .lit _, wf_i64 hw⟩
theorem op_string {r : Reach} {b0 : Nat} {t : TypeId} {v : Value} {d : DataW T} {ps : List MemPlace} (ht : P.underlying t = some .string) (hval : Value.okWide P W r b0 t v) (hd : DataW.Trod enc P W 0 sp held t v d ps) :
    ∃ l : List UInt8, RdV (conc0 W) [] (dS (str l)) v ∧ d = .lit (.string l) := by
  obtain ⟨s, rfl, rfl, -, -⟩ := Go.ChangeMaps.open_string ht hval hd
  refine ⟨s.data.toList, ?_, rfl⟩
  have : str s.data.toList = s := by cases s; rfl
  rw [this]
  exact .lit _
theorem op_ints {r : Reach} {b0 : Nat} {t e : TypeId} {v : Value} {d : DataW T} {ps : List MemPlace} (ht : P.underlying t = some (.slice e)) (he : P.underlying e = some (.int .i64)) (hc : P.cellsOf e = 1) (hval : Value.okWide P W r b0 t v) (hd : DataW.Trod enc P W 0 sp held t v d ps) :
    ∃ l : List Int, RdV (conc0 W) [] (.sl (l.map dI)) v ∧ (∀ n ∈ l, -9223372036854775808 ≤ n ∧ n ≤ 9223372036854775807) ∧ (l = [] ∨ ∃ sp, d = .slice (l.map fun n => .lit (.int .i64 n)) sp) := by
  obtain ⟨a, len, cap, rfl⟩ := okWide_slice ht hval
  obtain ⟨l, h1, h2, h3⟩ := rd_ints ht he hc hd (by intro v' h; simpa [Value.cells] using h)
  exact ⟨l, h1, fun n hn => wf_i64 (h2 n hn), h3⟩
end
end Go.DL
set_option maxRecDepth 100000
set_option linter.unusedVariables false
namespace Go.Proofs.YtoehhfhjnjfgiaaDoor
open Go Go.DL Go.Proofs Go.Proofs.Tryd
open Go.ChangeShapes Go.WideShapes Go.ChangeAt Go.RowKit
theorem own : ownKnob Tryd.prog.godebug = none := by kernel_rfl
theorem laidOut : laidOutB Tryd.prog = true := by kernel_rfl
theorem readable3 : Tryd.prog.readableRec 3 = true ∧ 3 < Tryd.prog.types.size := ⟨by kernel_rfl, of_decide_eq_true (by kernel_rfl)⟩
theorem readable9 : Tryd.prog.readableRec 9 = true ∧ 9 < Tryd.prog.types.size := ⟨by kernel_rfl, of_decide_eq_true (by kernel_rfl)⟩
theorem readable22 : Tryd.prog.readableRec 22 = true ∧ 22 < Tryd.prog.types.size := ⟨by kernel_rfl, of_decide_eq_true (by kernel_rfl)⟩
theorem stand3 : Tryd.prog.wantsStandIn 3 = false := by kernel_rfl
theorem stand9 : Tryd.prog.wantsStandIn 9 = false := by kernel_rfl
theorem stand22 : Tryd.prog.wantsStandIn 22 = false := by kernel_rfl
theorem looksOn : true = Tryd.pinned.checked.prog.looks [] := by kernel_rfl
theorem bulk_one {H : Type} (d : DataW H) : 1 ≤ Rows.uptoBulk d := by
  cases d with
  | lit l => cases l <;> simp [Rows.uptoBulk]
  | _ => simp [Rows.uptoBulk]
theorem bulk_length {H : Type} (l : List (DataW H)) : l.length ≤ Rows.uptoBulkAll l := by
  induction l with
  | nil => simp
  | cons x r ih => have := bulk_one x; simp only [Rows.uptoBulkAll, List.length_cons]; omega
theorem bulk_part {H : Type} {d : DataW H} {l : List (DataW H)} (h : d ∈ l) : Rows.uptoBulk d ≤ Rows.uptoBulkAll l := by
  induction l with
  | nil => cases h
  | cons x r ih =>
    simp only [Rows.uptoBulkAll]
    cases h with
    | head => omega
    | tail _ h => have := ih h; omega
theorem bulk_ints {H : Type} {d : DataW H} {ds : List (DataW H)} {l : List Int} (hk : Rows.uptoSmall H ds = true) (hm : d ∈ ds) (h : l = [] ∨ ∃ sp, d = .slice (l.map fun n => .lit (.int .i64 n)) sp) : l.length ≤ 1048576 := by
  have h1 := of_decide_eq_true hk
  have h2 := bulk_part hm
  rcases h with rfl | ⟨sp, rfl⟩
  · simp
  · have h3 := bulk_length (l.map fun n => (.lit (.int .i64 n) : DataW H))
    simp only [Rows.uptoBulk, List.length_map] at h2 h3
    omega
theorem bulk_string {H : Type} {d : DataW H} {ds : List (DataW H)} {l : List UInt8} (hk : Rows.uptoSmall H ds = true) (hm : d ∈ ds) (h : d = .lit (.string l)) : l.length ≤ 1048576 := by
  have h1 := of_decide_eq_true hk
  have h2 := bulk_part hm
  subst h
  simp only [Rows.uptoBulk] at h2
  omega
theorem door_met (os : Os) (args : Array Value) : laidMetH Tryd.prog laidL ((World.doorLaid Tryd.prog 84 os).forCall (fun _ _ => 0) ⟨#[], args, []⟩).memory :=
  laidMetH_of_parts3 (fuel := 8) (laidMet_of_run' 8 (by kernel_rfl) (by kernel_rfl)) (by kernel_rfl) (by kernel_rfl)
end Go.Proofs.YtoehhfhjnjfgiaaDoor
set_option maxRecDepth 100000
set_option linter.unusedVariables false
namespace Go.Proofs.YtoehhfhjnjfgiaaDoor.claimRulesPrints
open Go Go.DL Go.Proofs Go.Proofs.Tryd
open Go.ChangeShapes Go.WideShapes Go.ChangeAt Go.RowKit
theorem contract (H : Type) (enc : TypeId × Value → H) (W : World) (base : Nat) (args : Array Value) (ds gs : List (DataW H)) (before : List MemPlace)
    (hval : ∀ (j : Nat) t v, Tryd.f4.params[j]? = some t → args[j]? = some v → Value.okWide Tryd.prog W .any base t v)
    (hW : DataW.Whole enc Tryd.prog Tryd.f4.params.toList Rows.rulesPrintsSpec.vars false W args.toList ds gs before) (hk : Rows.uptoSmall H (ds ++ gs) = true) (hL : laidMetH Tryd.prog laidL W) :
    Calls Tryd.prog 4 args W fun e W' => ∃ v, e = .returned v ∧ Rows.rulesPrintsSpec.post enc Tryd.prog Tryd.f4 false true false false W args v W' := by
  have hW' := hW
  obtain ⟨p, q, hA0, hV, rfl, hfz, hnd⟩ := hW
  have hA : DataW.TrodAll enc Tryd.prog W 0 (fun _ => true) true Tryd.f4.params.toList args.toList ds p := hA0
  rw [Tryd.params4] at hA hval
  obtain ⟨v0, vs0, d0, ds0, p0, q0, hargs, rfl, rfl, h0, r0⟩ := trodAll_cons hA
  obtain ⟨v1, vs1, d1, ds1, p1, q1, rfl, rfl, rfl, h1, r1⟩ := trodAll_cons r0
  obtain ⟨v2, vs2, d2, ds2, p2, q2, rfl, rfl, rfl, h2, r2⟩ := trodAll_cons r1
  obtain ⟨v3, vs3, d3, ds3, p3, q3, rfl, rfl, rfl, h3, r3⟩ := trodAll_cons r2
  obtain ⟨v4, vs4, d4, ds4, p4, q4, rfl, rfl, rfl, h4, r4⟩ := trodAll_cons r3
  obtain ⟨rfl, rfl, rfl⟩ := trodAll_nil r4
  obtain rfl : args = #[v0, v1, v2, v3, v4] := by cases args; simp_all
  obtain ⟨rfl, rfl⟩ := trodVars_none hV
  obtain ⟨x0, k0, w0, e0⟩ := op_ints Tryd.underlying22 Tryd.underlying3 c3 (hval 0 22 v0 rfl rfl) h0
  have b0 := bulk_ints hk (by simp) e0
  obtain ⟨x1, k1, w1⟩ := op_int Tryd.underlying3 (hval 1 3 v1 rfl rfl) h1
  obtain ⟨x2, k2, w2⟩ := op_int Tryd.underlying3 (hval 2 3 v2 rfl rfl) h2
  obtain ⟨x3, k3, w3⟩ := op_int Tryd.underlying3 (hval 3 3 v3 rfl rfl) h3
  obtain ⟨x4, k4, e4⟩ := op_string Tryd.underlying9 (hval 4 9 v4 rfl rfl) h4
  have b4 := bulk_string hk (by simp) e4
  refine law_post (cds := [.sl (ints x0), dI x1, dI x2, dI x3, dS (str x4)]) (rulesPrints_spec env_glob x0 x1 x2 x3 x4 w0 (by omega) w1 w2 w3 (by omega) rfl) (glob_rd hL) (tab_rd hL) rfl ?_ rfl laidOut ?_ hW' rfl (by kernel_rfl) Tryd.underlying4
  · intro i hi
    match i, hi with
    | 0, _ => exact k0
    | 1, _ => exact k1
    | 2, _ => exact k2
    | 3, _ => exact k3
    | 4, _ => exact k4
  · rw [Tryd.params4]
    intro t ht
    simp only [List.mem_cons, List.not_mem_nil, or_false] at ht
    rcases ht with rfl | rfl | rfl | rfl | rfl <;> first | exact readable3 | exact readable9 | exact readable22
theorem reads (os : Os) {H : Type} (enc : TypeId × Value → H) : ∃ places, DataW.whole enc Tryd.prog ((World.doorLaid Tryd.prog 84 os).forCall (fun _ _ => 0) ⟨#[], #[.slice none 0 0, .int .i64 0, .int .i64 0, .int .i64 0, .string ⟨#[]⟩], []⟩).memory Tryd.f4.params.toList Rows.rulesPrintsSpec.vars false #[Value.slice none 0 0, .int .i64 0, .int .i64 0, .int .i64 0, .string ⟨#[]⟩].toList 8 =
    some ([.nil, .lit (.int .i64 0), .lit (.int .i64 0), .lit (.int .i64 0), .lit (.string [])], [], places) :=
  ⟨[], by kernel_rfl⟩
theorem lifted (os : Os) (started : os.Started) (H : Type) (enc : TypeId × Value → H) (F : Stop.Interp) :
    ReturnsInHanded {} Tryd.checked os 4 .any ((Rows.OpenSpec.upto Rows.rulesPrintsSpec).preRow enc Tryd.prog Tryd.f4 Rows.rulesPrintsUptoRow.domain false Rows.rulesPrintsUptoRow.laid) (((Rows.OpenSpec.upto Rows.rulesPrintsSpec).at F).post enc Tryd.prog Tryd.f4 false true false false) := by
  obtain ⟨places, hx⟩ := reads os enc
  refine returnsInHanded_of_row (C := Tryd.checked) (s := Rows.OpenSpec.upto Rows.rulesPrintsSpec) own started (by kernel_rfl) Tryd.func4
    (witness_row_atRef (enc := enc) (C := Tryd.checked) false (World.doorLaid Tryd.prog 84 os) #[.slice none 0 0, .int .i64 0, .int .i64 0, .int .i64 0, .string ⟨#[]⟩] rfl (by kernel_rfl) (by kernel_rfl) (by kernel_rfl)
      (OpenSpec.preRow_of_cond 8 hx (by kernel_rfl) (fun k hk => by cases hk; kernel_rfl) (by kernel_rfl) (door_met os _))) ?_
  intro W base args ds gs before hval hW _ hcond _ hL _ _
  exact contract H enc W base args ds gs before hval hW (hcond _ rfl) hL
theorem saidUpto : Rows.RulesPrintsUptoSaid :=
  OpenClaim.holds_of_cond 4 Tryd.f4 rfl rfl rfl rfl rfl rfl rfl ⟨rfl, rfl, rfl, rfl, rfl⟩ rfl rfl rfl rfl rfl (by kernel_rfl) Tryd.func4 (by kernel_rfl)
    (of_decide_eq_true (by kernel_rfl)) (by unfold Func.isWrapper; first | (rw [if_pos (by decide +kernel)]; kernel_rfl) | (rw [if_neg (by decide +kernel)]; exact ⟨rfl, rfl⟩))
    (fun os started H enc _ F => by rw [OpenClaim.pre_eq_preRow]; exact lifted os started H enc F)
theorem plain (f : FuncId) (fn : Func) (hf : Tryd.pinned.checked.prog.funcNamed "splicery/splicerylaw36.RulesPrints" = some f) (hfn : Tryd.pinned.checked.prog.funcs[f]? = some fn) :
    true = Tryd.pinned.checked.prog.looks [] ∧ ∀ (j : Nat) t, fn.params[j]? = some t → Tryd.pinned.checked.prog.wantsStandIn t = false := by
  obtain rfl : f = 4 := Option.some.inj ((show Tryd.prog.funcNamed "splicery/splicerylaw36.RulesPrints" = some 4 by kernel_rfl).symm.trans hf) |>.symm
  obtain rfl : fn = Tryd.f4 := (Option.some.inj (Tryd.func4.symm.trans hfn)).symm
  refine ⟨looksOn, fun j t ht => ?_⟩
  rw [Tryd.params4] at ht
  have hm := Array.mem_of_getElem? ht
  simp only [List.mem_toArray, List.mem_cons, List.not_mem_nil, or_false] at hm
  rcases hm with rfl | rfl | rfl | rfl | rfl <;> first | exact stand3 | exact stand9 | exact stand22
theorem rulesPrints_card : Rows.RulesPrintsUptoCardSaid :=
  Claim7.holds_tied_plain_at .later [] _ _ _ _ saidUpto (fun _ h => by cases h) (by kernel_rfl) (fun _ h => by cases h) rulesPrintsUpto_row_tie rfl ⟨rfl, rfl⟩ (by kernel_rfl) rfl plain (by kernel_rfl)
end Go.Proofs.YtoehhfhjnjfgiaaDoor.claimRulesPrints
