/- The card of RulesRound, for inputs of bulk at most 1048576 : for all lists of numbers and all strings, the function returns true and leaves its arguments as they were.
   Conditions: the arguments and the package-level variables read together hold at most 1048576 values and letters; the listed package-level variables start as the program's text lays them (tied by the card, over the pruned copy of the project). -/
import Derived.LaidSub
import Derived.LaidHandle
import Derived.LaidMore
import Derived.Lib.LaidTab
import Derived.OpenShut
import Derived.Carry
import Derived.ChangeSlices
import Derived.ChangeMaps5
import Derived.ChangeSame
import Derived.RowKitVeiled
import Derived.Test.YtoehhfhjnjfgiaaDoorRows
import Derived.WideKeyArgs
import Derived.Test.YtoehhfhjnjfgiaaDoorCards
import Derived.Test.YtoehhfhjnjfgiaaDoorTie
import Derived.ProofKit
import Derived.Deep.DeepHandedRow
import Derived.Deep.DeepWitnessRowRef
import Derived.Test.YtoehhfhjnjfgiaaDoorRoundH
set_option maxRecDepth 100000
set_option maxHeartbeats 4000000
set_option linter.unusedSimpArgs false
set_option linter.unusedVariables false
namespace Go.Proofs.Tryd
open Go Go.DL
variable {G : Nat → D} {H : List O} {Q : D → List O → Prop}
theorem whoN_ok (b : Nat) : ∀ w, w ≤ 8 → whoOk (whoN b w) = true ∧ ∀ x ∈ whoN b w, x < (w : Int)
  | 0, _ => ⟨rfl, by simp [whoN]⟩
  | w + 1, h => by
    obtain ⟨h1, h2⟩ := whoN_ok b w (by omega)
    rw [whoN_succ]
    split
    · refine ⟨whoOk_snoc.2 ⟨h1, by omega, by omega, ?_⟩, ?_⟩
      · by_cases c : whoN b w = []
        · exact Or.inl c
        · have hl : 0 < (whoN b w).length := List.length_pos_iff.2 c
          refine Or.inr (h2 _ ?_)
          rw [List.getD_eq_getElem?_getD, List.getElem?_eq_getElem (by omega)]; exact List.getElem_mem _
      · intro x hx
        rcases List.mem_append.1 hx with hx | hx
        · have := h2 x hx; omega
        · have := List.mem_singleton.1 hx; omega
    · exact ⟨h1, fun x hx => by have := h2 x hx; omega⟩
theorem rulesF_valid {l : List Int} {names : List (List UInt8)} {most : Int} (hm : 0 ≤ most) (hm2 : most ≤ 64) (hn : ∀ x ∈ names, isWord kwL x = true) : validF (rulesF l names most) = true := by
  simp only [validF, Bool.and_eq_true, List.all_eq_true, decide_eq_true_eq]
  refine ⟨?_, by have := rulesF_len l names most hm; omega⟩
  intro r hr
  obtain ⟨i, rfl⟩ := rulesF_mem hr
  have hw := whoN_ok (1 + (at_ l (17 + i) 255).toNat) 8 (by omega)
  have hp := ruleWho_pos l i
  have ha := at_range l (25 + i) (ruleWho l i).length (by omega)
  refine fine_ok ⟨?_, ?_, ?_, ?_, hw.1⟩
  · show whatsL.contains (bl8 (str _)) = true
    rw [bl8_str]
    have h7 := at_range l (1 + i) 7 (by omega)
    have : (at_ l (1 + i) 7).toNat < whatsL.length := by show _ < 7; omega
    rw [List.getD_eq_getElem?_getD, List.getElem?_eq_getElem this, List.contains_iff_mem]
    exact List.getElem_mem this
  · show bl8 (str _) = [] ∨ isWord kwL (bl8 (str _)) = true
    rw [bl8_str]
    split
    · rename_i c
      have h9 := at_range l (9 + i) (2 * names.length + 1) (by omega)
      have : (at_ l (9 + i) (2 * names.length + 1)).toNat < names.length := by omega
      rw [List.getD_eq_getElem?_getD, List.getElem?_eq_getElem this]
      exact Or.inr (hn _ (List.getElem_mem this))
    · exact Or.inl rfl
  · show 1 ≤ 1 + at_ l (25 + i) (ruleWho l i).length; omega
  · show 1 + at_ l (25 + i) (ruleWho l i).length ≤ ((ruleWho l i).length : Int); omega
def respace (g : Nat → List UInt8) (ts : List Tok) (k : Nat) : List Tok := (List.range ts.length).map fun i => if i < k then ⟨(ts.getD i ⟨[], []⟩).text, g i⟩ else ts.getD i ⟨[], []⟩
theorem respace_len {g : Nat → List UInt8} {ts : List Tok} {k : Nat} : (respace g ts k).length = ts.length := by simp [respace]
theorem respace_get {g : Nat → List UInt8} {ts : List Tok} {k i : Nat} (h : i < ts.length) : (respace g ts k)[i]? = some (if i < k then ⟨(ts[i]'h).text, g i⟩ else ts[i]'h) := by
  simp [respace, List.getElem?_map, List.getElem?_range h, List.getD, h]
theorem respace_zero {g : Nat → List UInt8} {ts : List Tok} : respace g ts 0 = ts := by
  apply List.ext_getElem?
  intro i
  by_cases c : i < ts.length
  · rw [respace_get c]; simp [c]
  · rw [List.getElem?_eq_none (by rw [respace_len]; omega), List.getElem?_eq_none (by omega)]
theorem respace_succ {g : Nat → List UInt8} {ts : List Tok} {k : Nat} (h : k < ts.length) : respace g ts (k + 1) = (respace g ts k).set k ⟨(ts[k]'h).text, g k⟩ := by
  apply List.ext_getElem?
  intro i
  by_cases c : i < ts.length
  · rw [respace_get c, List.getElem?_set, respace_get c]
    by_cases e : k = i
    · subst e; simp [respace_len, h]
    · rw [if_neg e]
      by_cases c1 : i < k
      · rw [if_pos (by omega), if_pos c1]
      · rw [if_neg (by omega), if_neg c1]
  · rw [List.getElem?_eq_none (by rw [respace_len]; omega), List.getElem?_eq_none (by rw [List.length_set, respace_len]; omega)]
theorem rulesRound_spec (hE : Env G) (l m : List Int) (raw : List UInt8) (hl : ∀ n ∈ l, I64 n) (hll : l.length ≤ 1099511627776) (hm : ∀ n ∈ m, I64 n) (hml : m.length ≤ 1099511627776) (hrl : raw.length ≤ 1048576)
    (hQ : Q (dB true) H) : CallA Tryd.prog G 7 [.sl (ints l), .sl (ints m), dS (str raw)] H Q := by
  refine CallA.drop (s7 (Nat.le_of_ble_eq_true rfl) ?_)
  simp -dsimp -implicitDefEqProofs (maxSteps := 1000000) (disch := first | omega | (simp only [List.length_append, List.length_cons, List.length_nil]; omega) | (intros; simp only [ne_eq, reduceCtorEq, not_false_eq_true] <;> fail)) only [DL.R, Nat.reduceEqDiff, ↓reduceIte, reduceCtorEq, Int.reduceToNat, Int.reduceLE, Int.reduceLT, Nat.reduceLeDiff, Nat.reduceAdd, Nat.reduceMul, Int.reduceBNe, Int.reduceBEq, Int.cast_ofNat_Int, decide_true, decide_false, ne_eq, eq_self, implies_true, dc7_r0, dc7_r1, dc7_r2, dc7_r3, dc7_r4, dc7_r5, dc7_r6, dc7_r7, dc7_r9, dc7_r8, dc7_r10, dc7_r11, dc7_r12, dc7_r14, dc7_r15, dc7_r16, dc7_r17, dc7_r18, dc7_r19, dc7_r20, dc7_r21, dc7_r22, dc7_r13, dc7_r23, dc7, DL.dI, DL.dB, DL.dS]
  refine rules_spec l hl hll [[109, 105, 108, 108], [109, 49], [111, 102]] (by simp) 6 (by omega) (by omega) ?_
  obtain ⟨x, hx⟩ : ∃ x, rulesF l [[109, 105, 108, 108], [109, 49], [111, 102]] 6 = x := ⟨_, rfl⟩
  have hxl : x.length ≤ 6 := by have := rulesF_len l [[109, 105, 108, 108], [109, 49], [111, 102]] 6 (by omega); rw [hx] at this; omega
  have hxB : ∀ r ∈ x, ruleB 17 r := fun r hr => ruleB_mono (rulesF_B (by decide) (hx ▸ hr)) (by omega)
  have hxv : validF x = true := by rw [← hx]; exact rulesF_valid (by omega) (by omega) (by decide)
  rw [hx]
  simp -dsimp -implicitDefEqProofs (maxSteps := 1000000) (disch := first | omega | (simp only [List.length_append, List.length_cons, List.length_nil]; omega) | (intros; simp only [ne_eq, reduceCtorEq, not_false_eq_true] <;> fail)) only [DL.R, Nat.reduceEqDiff, ↓reduceIte, reduceCtorEq, Int.reduceToNat, Int.reduceLE, Int.reduceLT, Nat.reduceLeDiff, Nat.reduceAdd, Nat.reduceMul, Int.reduceBNe, Int.reduceBEq, Int.cast_ofNat_Int, decide_true, decide_false, ne_eq, eq_self, implies_true, dc7_r0, dc7_r1, dc7_r2, dc7_r3, dc7_r4, dc7_r5, dc7_r6, dc7_r7, dc7_r9, dc7_r8, dc7_r10, dc7_r11, dc7_r12, dc7_r14, dc7_r15, dc7_r16, dc7_r17, dc7_r18, dc7_r19, dc7_r20, dc7_r21, dc7_r22, dc7_r13, dc7_r23, dc7, DL.dI, DL.dB, DL.dS]
  refine print_spec hE x (by omega) (fun r hr => ruleB_len (hxB r hr) (by omega)) ?_
  have hpx : printF x = rulesTxt x := by rw [printF, if_pos hxv]
  have hsl : (printF x).length ≤ 420 := by
    rw [hpx]
    have := rulesTxt_len (validF_fine hxv).1
    omega
  have hrp := refP_print hxv
  have hsc := scan_print hxv
  rw [← hpx] at hsc
  obtain ⟨s0, hs0⟩ : ∃ z, printF x = z := ⟨_, rfl⟩
  rw [hs0] at hsl hrp hsc ⊢
  obtain ⟨ts, hts⟩ : ∃ z, (gsRules [] x).map tk = z := ⟨_, rfl⟩
  have htx : ts.map (·.text) = rulesT x := by rw [← hts, ← gsRules_snd x [], List.map_map]; rfl
  obtain ⟨t0, ht0⟩ : ∃ z : List UInt8, (if x = [] then [] else [10]) = z := ⟨_, rfl⟩
  rw [hts, ht0] at hsc
  simp -dsimp -implicitDefEqProofs (maxSteps := 1000000) (disch := first | omega | (simp only [List.length_append, List.length_cons, List.length_nil]; omega) | (intros; simp only [ne_eq, reduceCtorEq, not_false_eq_true] <;> fail)) only [DL.R, Nat.reduceEqDiff, ↓reduceIte, reduceCtorEq, Int.reduceToNat, Int.reduceLE, Int.reduceLT, Nat.reduceLeDiff, Nat.reduceAdd, Nat.reduceMul, Int.reduceBNe, Int.reduceBEq, Int.cast_ofNat_Int, decide_true, decide_false, ne_eq, eq_self, implies_true, dc7_r0, dc7_r1, dc7_r2, dc7_r3, dc7_r4, dc7_r5, dc7_r6, dc7_r7, dc7_r9, dc7_r8, dc7_r10, dc7_r11, dc7_r12, dc7_r14, dc7_r15, dc7_r16, dc7_r17, dc7_r18, dc7_r19, dc7_r20, dc7_r21, dc7_r22, dc7_r13, dc7_r23, dc7, DL.dI, DL.dB, DL.dS]
  refine scanR_spec hE s0 ts t0 hsc (by omega) fun ver0 => ?_
  simp -dsimp -implicitDefEqProofs (maxSteps := 1000000) (disch := first | omega | (simp only [List.length_append, List.length_cons, List.length_nil]; omega) | (intros; simp only [ne_eq, reduceCtorEq, not_false_eq_true] <;> fail)) only [DL.R, Nat.reduceEqDiff, ↓reduceIte, reduceCtorEq, Int.reduceToNat, Int.reduceLE, Int.reduceLT, Nat.reduceLeDiff, Nat.reduceAdd, Nat.reduceMul, Int.reduceBNe, Int.reduceBEq, Int.cast_ofNat_Int, decide_true, decide_false, ne_eq, eq_self, implies_true, dc7_r0, dc7_r1, dc7_r2, dc7_r3, dc7_r4, dc7_r5, dc7_r6, dc7_r7, dc7_r9, dc7_r8, dc7_r10, dc7_r11, dc7_r12, dc7_r14, dc7_r15, dc7_r16, dc7_r17, dc7_r18, dc7_r19, dc7_r20, dc7_r21, dc7_r22, dc7_r13, dc7_r23, dc7, DL.dI, DL.dB, DL.dS]
  refine valid_spec hE x (by omega) (fun r hr => ruleB_len (hxB r hr) (by omega)) ?_
  rw [hxv]
  simp -dsimp -implicitDefEqProofs (maxSteps := 1000000) (disch := first | omega | (simp only [List.length_append, List.length_cons, List.length_nil]; omega) | (intros; simp only [ne_eq, reduceCtorEq, not_false_eq_true] <;> fail)) only [DL.R, Nat.reduceEqDiff, ↓reduceIte, reduceCtorEq, Int.reduceToNat, Int.reduceLE, Int.reduceLT, Nat.reduceLeDiff, Nat.reduceAdd, Nat.reduceMul, Int.reduceBNe, Int.reduceBEq, Int.cast_ofNat_Int, decide_true, decide_false, ne_eq, eq_self, implies_true, dc7_r0, dc7_r1, dc7_r2, dc7_r3, dc7_r4, dc7_r5, dc7_r6, dc7_r7, dc7_r9, dc7_r8, dc7_r10, dc7_r11, dc7_r12, dc7_r14, dc7_r15, dc7_r16, dc7_r17, dc7_r18, dc7_r19, dc7_r20, dc7_r21, dc7_r22, dc7_r13, dc7_r23, dc7, DL.dI, DL.dB, DL.dS, bne_self_eq_false]
  obtain ⟨hk1, hk2, -⟩ := scan_ok s0
  rw [hsc] at hk1 hk2
  simp only at hk1 hk2
  obtain ⟨gf, hgf⟩ : ∃ gf : Nat → List UInt8, ∀ i, gf i = gapF (at_ m i 4000) i := ⟨fun i => gapF (at_ m i 4000) i, fun i => rfl⟩
  have htl : (toksD ts).length = ts.length := by simp [toksD]
  refine for_i 12 ts.length (fun i s' H' => (∃ ver, s' 9 = .row H.length ver ∧ H' = H ++ [.row true ver 52 2 (toksD (respace gf ts i))]) ∧ s' 1 = .sl (ints m) ∧ s' 2 = dS (str raw) ∧ s' 7 = .sl (rulesD x) ∧ s' 8 = dS (str s0)) ?_ ?_ ?_
  · simp -dsimp -implicitDefEqProofs (maxSteps := 1000000) (disch := first | omega | (simp only [List.length_append, List.length_cons, List.length_nil]; omega) | (intros; simp only [ne_eq, reduceCtorEq, not_false_eq_true] <;> fail)) only [DL.R, Nat.reduceEqDiff, ↓reduceIte, reduceCtorEq, Int.reduceToNat, Int.reduceLE, Int.reduceLT, Nat.reduceLeDiff, Nat.reduceAdd, Nat.reduceMul, Int.reduceBNe, Int.reduceBEq, Int.cast_ofNat_Int, decide_true, decide_false, ne_eq, eq_self, implies_true, DL.dI, DL.dB, DL.dS]
  · simp -dsimp -implicitDefEqProofs (maxSteps := 1000000) (disch := first | omega | (simp only [List.length_append, List.length_cons, List.length_nil]; omega) | (intros; simp only [ne_eq, reduceCtorEq, not_false_eq_true] <;> fail)) only [DL.R, Nat.reduceEqDiff, ↓reduceIte, reduceCtorEq, Int.reduceToNat, Int.reduceLE, Int.reduceLT, Nat.reduceLeDiff, Nat.reduceAdd, Nat.reduceMul, Int.reduceBNe, Int.reduceBEq, Int.cast_ofNat_Int, decide_true, decide_false, ne_eq, eq_self, implies_true, DL.dI, DL.dB, DL.dS]
    exact ⟨ver0, rfl, by rw [respace_zero]⟩
  · rintro i s' H' hi ht ⟨⟨ver, g9, rfl⟩, g1, g2, g7, g8⟩
    have htl2 : (toksD (respace gf ts i)).length = ts.length := by simp [toksD, respace_len]
    by_cases c : i < ts.length
    · have c1 : decide ((i : Int) < (ts.length : Int)) = true := decide_eq_true (by omega)
      obtain ⟨q, hq⟩ : ∃ q, ts[i] = q := ⟨_, rfl⟩
      have hget : (toksD (respace gf ts i))[i]? = some (tokD q) := by
        simp only [toksD, List.getElem?_map, respace_get c, if_neg (Nat.lt_irrefl i), hq, Option.map_some]
      simp -dsimp -implicitDefEqProofs (maxSteps := 1000000) (disch := first | omega | (simp only [List.length_append, List.length_cons, List.length_nil]; omega) | (intros; simp only [ne_eq, reduceCtorEq, not_false_eq_true] <;> fail)) only [DL.R, Nat.reduceEqDiff, ↓reduceIte, reduceCtorEq, Int.reduceToNat, Int.reduceLE, Int.reduceLT, Nat.reduceLeDiff, Nat.reduceAdd, Nat.reduceMul, Int.reduceBNe, Int.reduceBEq, Int.cast_ofNat_Int, decide_true, decide_false, ne_eq, eq_self, implies_true, dc7_r0, dc7_r1, dc7_r2, dc7_r3, dc7_r4, dc7_r5, dc7_r6, dc7_r7, dc7_r9, dc7_r8, dc7_r10, dc7_r11, dc7_r12, dc7_r14, dc7_r15, dc7_r16, dc7_r17, dc7_r18, dc7_r19, dc7_r20, dc7_r21, dc7_r22, dc7_r13, dc7_r23, dc7, DL.dI, DL.dB, DL.dS, g1, g2, g7, g8, g9, ht, c1, htl2, DL.set_lS, DL.get_lS, DL.get_ownS, DL.get_ownS0, DL.set_ownS, DL.set_ownS0, List.length_set]
      refine at_spec m i 4000 hm (by omega) (by omega) ?_
      simp -dsimp -implicitDefEqProofs (maxSteps := 1000000) (disch := first | omega | (simp only [List.length_append, List.length_cons, List.length_nil]; omega) | (intros; simp only [ne_eq, reduceCtorEq, not_false_eq_true] <;> fail)) only [DL.R, Nat.reduceEqDiff, ↓reduceIte, reduceCtorEq, Int.reduceToNat, Int.reduceLE, Int.reduceLT, Nat.reduceLeDiff, Nat.reduceAdd, Nat.reduceMul, Int.reduceBNe, Int.reduceBEq, Int.cast_ofNat_Int, decide_true, decide_false, ne_eq, eq_self, implies_true, dc7_r0, dc7_r1, dc7_r2, dc7_r3, dc7_r4, dc7_r5, dc7_r6, dc7_r7, dc7_r9, dc7_r8, dc7_r10, dc7_r11, dc7_r12, dc7_r14, dc7_r15, dc7_r16, dc7_r17, dc7_r18, dc7_r19, dc7_r20, dc7_r21, dc7_r22, dc7_r13, dc7_r23, dc7, DL.dI, DL.dB, DL.dS, g1, g2, g7, g8, g9, ht, c1, htl2, DL.set_lS, DL.get_lS, DL.get_ownS, DL.get_ownS0, DL.set_ownS, DL.set_ownS0, List.length_set]
      refine gap_spec _ i ?_ ?_
      · have := at_range m i 4000 (by omega)
        exact ⟨by omega, by omega⟩
      rw [← hgf]
      simp -dsimp -implicitDefEqProofs (maxSteps := 1000000) (disch := first | omega | (simp only [List.length_append, List.length_cons, List.length_nil]; omega) | (intros; simp only [ne_eq, reduceCtorEq, not_false_eq_true] <;> fail)) only [DL.R, Nat.reduceEqDiff, ↓reduceIte, reduceCtorEq, Int.reduceToNat, Int.reduceLE, Int.reduceLT, Nat.reduceLeDiff, Nat.reduceAdd, Nat.reduceMul, Int.reduceBNe, Int.reduceBEq, Int.cast_ofNat_Int, decide_true, decide_false, ne_eq, eq_self, implies_true, dc7_r0, dc7_r1, dc7_r2, dc7_r3, dc7_r4, dc7_r5, dc7_r6, dc7_r7, dc7_r9, dc7_r8, dc7_r10, dc7_r11, dc7_r12, dc7_r14, dc7_r15, dc7_r16, dc7_r17, dc7_r18, dc7_r19, dc7_r20, dc7_r21, dc7_r22, dc7_r13, dc7_r23, dc7, DL.dI, DL.dB, DL.dS, g1, g2, g7, g8, g9, ht, c1, htl2, hget, tokD, DL.set_lS, DL.get_lS, DL.get_ownS, DL.get_ownS0, DL.set_ownS, DL.set_ownS0, List.length_set, Option.some.injEq, exists_eq_left', DL.wrap_id]
      refine ⟨by omega, by omega, c, ver, rfl, ?_⟩
      rw [respace_succ c, hq]
      simp only [toksD, List.map_set]
      rfl
    · have c1 : decide ((i : Int) < (ts.length : Int)) = false := decide_eq_false (by omega)
      have hi' : i = ts.length := by omega
      subst hi'
      simp -dsimp -implicitDefEqProofs (maxSteps := 1000000) (disch := first | omega | (simp only [List.length_append, List.length_cons, List.length_nil]; omega) | (intros; simp only [ne_eq, reduceCtorEq, not_false_eq_true] <;> fail)) only [DL.R, Nat.reduceEqDiff, ↓reduceIte, reduceCtorEq, Int.reduceToNat, Int.reduceLE, Int.reduceLT, Nat.reduceLeDiff, Nat.reduceAdd, Nat.reduceMul, Int.reduceBNe, Int.reduceBEq, Int.cast_ofNat_Int, decide_true, decide_false, ne_eq, eq_self, implies_true, dc7_r0, dc7_r1, dc7_r2, dc7_r3, dc7_r4, dc7_r5, dc7_r6, dc7_r7, dc7_r9, dc7_r8, dc7_r10, dc7_r11, dc7_r12, dc7_r14, dc7_r15, dc7_r16, dc7_r17, dc7_r18, dc7_r19, dc7_r20, dc7_r21, dc7_r22, dc7_r13, dc7_r23, dc7, DL.dI, DL.dB, DL.dS, g1, g2, g7, g8, g9, ht, c1, htl2, DL.set_lS, DL.get_lS, DL.get_ownS, DL.get_ownS0, DL.set_ownS, DL.set_ownS0, List.length_set]
      obtain ⟨ts2, hts2⟩ : ∃ z, respace gf ts ts.length = z := ⟨_, rfl⟩
      have hl2 : ts2.length = ts.length := by rw [← hts2, respace_len]
      have hg2 : ∀ j, ∀ h : j < ts.length, ts2[j]? = some ⟨(ts[j]'h).text, gf j⟩ := by
        intro j h
        rw [← hts2, respace_get h, if_pos h]
      have hm2 : ∀ t ∈ ts2, ∃ j, ∃ h : j < ts.length, t = ⟨(ts[j]'h).text, gf j⟩ := by
        intro t ht
        obtain ⟨j, hj, e⟩ := List.mem_iff_getElem.1 ht
        have := hg2 j (by omega)
        rw [List.getElem?_eq_getElem hj, e] at this
        exact ⟨j, by omega, Option.some.inj this⟩
      have hgl : ∀ j, (gf j).length ≤ 14 := fun j => by rw [hgf]; exact gapF_len _ _
      rw [hts2]
      refine text_spec ts2 [35, 32, 101, 110, 100] (by omega) ?_ ?_ (by simp) ?_
      · intro t ht
        obtain ⟨j, hj, rfl⟩ := hm2 t ht
        exact (hk2 _ (List.getElem_mem hj)).2
      · intro t ht
        obtain ⟨j, hj, rfl⟩ := hm2 t ht
        have h1 := (hk2 _ (List.getElem_mem hj)).1
        have h2 := hgl j
        simp only; omega
      have hcl : (catT ts2 ++ [35, 32, 101, 110, 100]).length ≤ 1048576 := by
        have := catT_len (n := 30) (ts := ts2) (fun t ht => by
          obtain ⟨j, hj, rfl⟩ := hm2 t ht
          have h1 := (hk2 _ (List.getElem_mem hj)).1
          have h2 := hgl j
          simp only; omega)
        simp only [List.length_append, List.length_cons, List.length_nil]; omega
      have hsp : (catT ts2 ++ [35, 32, 101, 110, 100]).length ≤ 8192 → refP (catT ts2 ++ [35, 32, 101, 110, 100]) = (x, -1) := by
        intro h8
        have hct : ∀ (ts : List Tok) (t : List UInt8), catT ts ++ t = gtext (ts.map fun t => (t.before, t.text)) t := by
          intro ts t
          induction ts with
          | nil => rfl
          | cons a ts ih =>
            have : catT (a :: ts) = (a.before ++ a.text) ++ catT ts := rfl
            rw [this, List.append_assoc, ih]
            simp [gtext]
        rw [hct] at h8 ⊢
        refine refP_spaced hxv ?_ ?_ ?_ ⟨true, by decide⟩ h8
        · rw [List.map_map, ← htx]
          apply List.ext_getElem?
          intro j
          rw [List.getElem?_map, List.getElem?_map]
          by_cases cj : j < ts.length
          · rw [hg2 j cj, List.getElem?_eq_getElem cj]; rfl
          · rw [List.getElem?_eq_none (by omega), List.getElem?_eq_none (by omega)]; rfl
        · intro p hp
          obtain ⟨t, ht, rfl⟩ := List.mem_map.1 hp
          obtain ⟨j, hj, rfl⟩ := hm2 t ht
          simp only [hgf]
          exact gapF_bst _ _
        · intro p hp
          obtain ⟨j, hj, e⟩ := List.mem_iff_getElem.1 hp
          rw [List.length_tail, List.length_map] at hj
          rw [List.getElem_tail, List.getElem_map] at e
          have h3 := hg2 (j + 1) (by omega)
          rw [List.getElem?_eq_getElem (by omega)] at h3
          have h4 := Option.some.inj h3
          rw [h4] at e
          rw [← e]
          simp only [hgf]
          exact gapF_ne (by omega)
      obtain ⟨s1, hs1⟩ : ∃ z, catT ts2 ++ [35, 32, 101, 110, 100] = z := ⟨_, rfl⟩
      rw [hs1] at hcl hsp ⊢
      simp -dsimp -implicitDefEqProofs (maxSteps := 1000000) (disch := first | omega | (simp only [List.length_append, List.length_cons, List.length_nil]; omega) | (intros; simp only [ne_eq, reduceCtorEq, not_false_eq_true] <;> fail)) only [DL.R, Nat.reduceEqDiff, ↓reduceIte, reduceCtorEq, Int.reduceToNat, Int.reduceLE, Int.reduceLT, Nat.reduceLeDiff, Nat.reduceAdd, Nat.reduceMul, Int.reduceBNe, Int.reduceBEq, Int.cast_ofNat_Int, decide_true, decide_false, ne_eq, eq_self, implies_true, dc7_r0, dc7_r1, dc7_r2, dc7_r3, dc7_r4, dc7_r5, dc7_r6, dc7_r7, dc7_r9, dc7_r8, dc7_r10, dc7_r11, dc7_r12, dc7_r14, dc7_r15, dc7_r16, dc7_r17, dc7_r18, dc7_r19, dc7_r20, dc7_r21, dc7_r22, dc7_r13, dc7_r23, dc7, DL.dI, DL.dB, DL.dS, g1, g2, g7, g8, g9, ht, sadd, DL.wrap_id]
      obtain ⟨A, hA⟩ : ∃ A : List (List UInt8), [s0, s1, raw, s0 ++ raw] = A := ⟨_, rfl⟩
      have hAl : A.length = 4 := by rw [← hA]; rfl
      have hAL : (strs A).length = 4 := by rw [strs_len]; exact hAl
      have hAb : ∀ a ∈ A, a.length ≤ 1099511627776 := by
        rw [← hA]
        intro a ha
        simp only [List.mem_cons, List.not_mem_nil, or_false] at ha
        rcases ha with rfl | rfl | rfl | rfl <;> (try simp only [List.length_append, List.length_cons, List.length_take]) <;> omega
      have hA2 : ∀ i, i < 2 → ∀ a, A[i]? = some a → a.length ≤ 8192 → refP a = (x, -1) := by
        intro i hi a
        rw [← hA]
        match i, hi with
        | 0, _ => intro h _; cases h; exact hrp
        | 1, _ => intro h h8; cases h; exact hsp h8
      refine for_i 14 4 (fun i s' H' => (∃ Gs, H' = H ++ Gs) ∧ s' 13 = .sl (strs A) ∧ s' 7 = .sl (rulesD x)) ?_ ?_ ?_
      · simp -dsimp -implicitDefEqProofs (maxSteps := 1000000) (disch := first | omega | (simp only [List.length_append, List.length_cons, List.length_nil]; omega) | (intros; simp only [ne_eq, reduceCtorEq, not_false_eq_true] <;> fail)) only [DL.R, Nat.reduceEqDiff, ↓reduceIte, reduceCtorEq, Int.reduceToNat, Int.reduceLE, Int.reduceLT, Nat.reduceLeDiff, Nat.reduceAdd, Nat.reduceMul, Int.reduceBNe, Int.reduceBEq, Int.cast_ofNat_Int, decide_true, decide_false, ne_eq, eq_self, implies_true, DL.dI, DL.dB, DL.dS]
      · simp -dsimp -implicitDefEqProofs (maxSteps := 1000000) (disch := first | omega | (simp only [List.length_append, List.length_cons, List.length_nil]; omega) | (intros; simp only [ne_eq, reduceCtorEq, not_false_eq_true] <;> fail)) only [DL.R, Nat.reduceEqDiff, ↓reduceIte, reduceCtorEq, Int.reduceToNat, Int.reduceLE, Int.reduceLT, Nat.reduceLeDiff, Nat.reduceAdd, Nat.reduceMul, Int.reduceBNe, Int.reduceBEq, Int.cast_ofNat_Int, decide_true, decide_false, ne_eq, eq_self, implies_true, DL.dI, DL.dB, DL.dS, g7]
        rw [← hA]
        exact ⟨⟨_, rfl⟩, rfl⟩
      · rintro i s'' H'' hi gt ⟨⟨Gs, rfl⟩, k13, k7⟩
        have k13' : s'' 13 = .sl (A.map fun x => D.lit (.string (str x))) := k13
        by_cases c4 : i < 4
        · have d1 : decide ((i : Int) < 4) = true := decide_eq_true (by omega)
          have hiA : i < A.length := by omega
          obtain ⟨a, ha⟩ : ∃ a, A[i] = a := ⟨_, rfl⟩
          have hab := hAb _ (List.getElem_mem hiA)
          have hai : A[i]? = some a := by rw [List.getElem?_eq_getElem hiA, ha]
          rw [ha] at hab
          have hps := refP_small a
          simp -dsimp -implicitDefEqProofs (maxSteps := 1000000) (disch := first | omega | (simp only [List.length_append, List.length_cons, List.length_nil]; omega) | (intros; simp only [ne_eq, reduceCtorEq, not_false_eq_true] <;> fail)) only [DL.R, Nat.reduceEqDiff, ↓reduceIte, reduceCtorEq, Int.reduceToNat, Int.reduceLE, Int.reduceLT, Nat.reduceLeDiff, Nat.reduceAdd, Nat.reduceMul, Int.reduceBNe, Int.reduceBEq, Int.cast_ofNat_Int, decide_true, decide_false, ne_eq, eq_self, implies_true, dc7_r0, dc7_r1, dc7_r2, dc7_r3, dc7_r4, dc7_r5, dc7_r6, dc7_r7, dc7_r9, dc7_r8, dc7_r10, dc7_r11, dc7_r12, dc7_r14, dc7_r15, dc7_r16, dc7_r17, dc7_r18, dc7_r19, dc7_r20, dc7_r21, dc7_r22, dc7_r13, dc7_r23, dc7, DL.dI, DL.dB, DL.dS, k13', k7, gt, hAl, d1, ha]
          refine parse_spec hE a hab ?_
          rw [parse_eq]
          obtain ⟨y, n, hyn⟩ : ∃ y n, refP a = (y, n) := ⟨_, _, rfl⟩
          rw [hyn] at hps ⊢
          simp only at hps
          unfold parseD
          by_cases hn : n = -1
          · subst hn
            have hyv := refP_sound hyn
            have hyp := refP_print hyv
            have hyl : (printF y).length ≤ 1099511627776 := by
              rw [printF, if_pos hyv]
              have := rulesTxt_len (validF_fine hyv).1
              omega
            by_cases c2 : i < 2
            · have d2 : decide ((i : Int) < 2) = true := decide_eq_true (by omega)
              by_cases c8 : a.length ≤ 8192
              · have e2 : decide ((a.length : Int) ≤ 8192) = true := decide_eq_true (by omega)
                have hxy : y = x := by
                  have := hA2 i c2 a hai c8
                  rw [hyn] at this
                  exact congrArg Prod.fst this
                subst hxy
                simp -dsimp -implicitDefEqProofs (maxSteps := 1000000) (disch := first | omega | (simp only [List.length_append, List.length_cons, List.length_nil]; omega) | (intros; simp only [ne_eq, reduceCtorEq, not_false_eq_true] <;> fail)) only [DL.R, Nat.reduceEqDiff, ↓reduceIte, reduceCtorEq, Int.reduceToNat, Int.reduceLE, Int.reduceLT, Nat.reduceLeDiff, Nat.reduceAdd, Nat.reduceMul, Int.reduceBNe, Int.reduceBEq, Int.cast_ofNat_Int, decide_true, decide_false, ne_eq, eq_self, implies_true, dc7_r0, dc7_r1, dc7_r2, dc7_r3, dc7_r4, dc7_r5, dc7_r6, dc7_r7, dc7_r9, dc7_r8, dc7_r10, dc7_r11, dc7_r12, dc7_r14, dc7_r15, dc7_r16, dc7_r17, dc7_r18, dc7_r19, dc7_r20, dc7_r21, dc7_r22, dc7_r13, dc7_r23, dc7, DL.dI, DL.dB, DL.dS, k13', k7, gt, hAl, d1, d2, e2, ha, bne_self_eq_false]
                refine sameRules_spec _ _ (by omega) (fun r hr => by have := (hps.2 r hr).2.2; omega) ?_
                rw [sameRules_refl]
                simp -dsimp -implicitDefEqProofs (maxSteps := 1000000) (disch := first | omega | (simp only [List.length_append, List.length_cons, List.length_nil]; omega) | (intros; simp only [ne_eq, reduceCtorEq, not_false_eq_true] <;> fail)) only [DL.R, Nat.reduceEqDiff, ↓reduceIte, reduceCtorEq, Int.reduceToNat, Int.reduceLE, Int.reduceLT, Nat.reduceLeDiff, Nat.reduceAdd, Nat.reduceMul, Int.reduceBNe, Int.reduceBEq, Int.cast_ofNat_Int, decide_true, decide_false, ne_eq, eq_self, implies_true, dc7_r0, dc7_r1, dc7_r2, dc7_r3, dc7_r4, dc7_r5, dc7_r6, dc7_r7, dc7_r9, dc7_r8, dc7_r10, dc7_r11, dc7_r12, dc7_r14, dc7_r15, dc7_r16, dc7_r17, dc7_r18, dc7_r19, dc7_r20, dc7_r21, dc7_r22, dc7_r13, dc7_r23, dc7, DL.dI, DL.dB, DL.dS, k13', k7, gt, hAl, d1, ha, bne_self_eq_false]
                refine print_spec hE y (by omega) (fun r hr => ruleB_len (hps.2 r hr) (by omega)) ?_
                simp -dsimp -implicitDefEqProofs (maxSteps := 1000000) (disch := first | omega | (simp only [List.length_append, List.length_cons, List.length_nil]; omega) | (intros; simp only [ne_eq, reduceCtorEq, not_false_eq_true] <;> fail)) only [DL.R, Nat.reduceEqDiff, ↓reduceIte, reduceCtorEq, Int.reduceToNat, Int.reduceLE, Int.reduceLT, Nat.reduceLeDiff, Nat.reduceAdd, Nat.reduceMul, Int.reduceBNe, Int.reduceBEq, Int.cast_ofNat_Int, decide_true, decide_false, ne_eq, eq_self, implies_true, dc7_r0, dc7_r1, dc7_r2, dc7_r3, dc7_r4, dc7_r5, dc7_r6, dc7_r7, dc7_r9, dc7_r8, dc7_r10, dc7_r11, dc7_r12, dc7_r14, dc7_r15, dc7_r16, dc7_r17, dc7_r18, dc7_r19, dc7_r20, dc7_r21, dc7_r22, dc7_r13, dc7_r23, dc7, DL.dI, DL.dB, DL.dS, k13', k7, gt, hAl, d1, ha, bne_self_eq_false, Bool.not_true, DL.wrap_id]
                refine parse_spec hE (printF y) hyl ?_
                rw [parse_eq, hyp]
                unfold parseD
                simp -dsimp -implicitDefEqProofs (maxSteps := 1000000) (disch := first | omega | (simp only [List.length_append, List.length_cons, List.length_nil]; omega) | (intros; simp only [ne_eq, reduceCtorEq, not_false_eq_true] <;> fail)) only [DL.R, Nat.reduceEqDiff, ↓reduceIte, reduceCtorEq, Int.reduceToNat, Int.reduceLE, Int.reduceLT, Nat.reduceLeDiff, Nat.reduceAdd, Nat.reduceMul, Int.reduceBNe, Int.reduceBEq, Int.cast_ofNat_Int, decide_true, decide_false, ne_eq, eq_self, implies_true, dc7_r0, dc7_r1, dc7_r2, dc7_r3, dc7_r4, dc7_r5, dc7_r6, dc7_r7, dc7_r9, dc7_r8, dc7_r10, dc7_r11, dc7_r12, dc7_r14, dc7_r15, dc7_r16, dc7_r17, dc7_r18, dc7_r19, dc7_r20, dc7_r21, dc7_r22, dc7_r13, dc7_r23, dc7, DL.dI, DL.dB, DL.dS, k13', k7, gt, hAl, d1, ha, bne_self_eq_false, Bool.not_true, DL.wrap_id]
                refine valid_spec hE y (by omega) (fun r hr => ruleB_len (hps.2 r hr) (by omega)) ?_
                rw [hyv]
                simp -dsimp -implicitDefEqProofs (maxSteps := 1000000) (disch := first | omega | (simp only [List.length_append, List.length_cons, List.length_nil]; omega) | (intros; simp only [ne_eq, reduceCtorEq, not_false_eq_true] <;> fail)) only [DL.R, Nat.reduceEqDiff, ↓reduceIte, reduceCtorEq, Int.reduceToNat, Int.reduceLE, Int.reduceLT, Nat.reduceLeDiff, Nat.reduceAdd, Nat.reduceMul, Int.reduceBNe, Int.reduceBEq, Int.cast_ofNat_Int, decide_true, decide_false, ne_eq, eq_self, implies_true, dc7_r0, dc7_r1, dc7_r2, dc7_r3, dc7_r4, dc7_r5, dc7_r6, dc7_r7, dc7_r9, dc7_r8, dc7_r10, dc7_r11, dc7_r12, dc7_r14, dc7_r15, dc7_r16, dc7_r17, dc7_r18, dc7_r19, dc7_r20, dc7_r21, dc7_r22, dc7_r13, dc7_r23, dc7, DL.dI, DL.dB, DL.dS, k13', k7, gt, hAl, d1, ha, bne_self_eq_false, Bool.not_true, DL.wrap_id]
                refine sameRules_spec y y (by omega) (fun r hr => by have := (hps.2 r hr).2.2; omega) ?_
                rw [sameRules_refl]
                simp -dsimp -implicitDefEqProofs (maxSteps := 1000000) (disch := first | omega | (simp only [List.length_append, List.length_cons, List.length_nil]; omega) | (intros; simp only [ne_eq, reduceCtorEq, not_false_eq_true] <;> fail)) only [DL.R, Nat.reduceEqDiff, ↓reduceIte, reduceCtorEq, Int.reduceToNat, Int.reduceLE, Int.reduceLT, Nat.reduceLeDiff, Nat.reduceAdd, Nat.reduceMul, Int.reduceBNe, Int.reduceBEq, Int.cast_ofNat_Int, decide_true, decide_false, ne_eq, eq_self, implies_true, dc7_r0, dc7_r1, dc7_r2, dc7_r3, dc7_r4, dc7_r5, dc7_r6, dc7_r7, dc7_r9, dc7_r8, dc7_r10, dc7_r11, dc7_r12, dc7_r14, dc7_r15, dc7_r16, dc7_r17, dc7_r18, dc7_r19, dc7_r20, dc7_r21, dc7_r22, dc7_r13, dc7_r23, dc7, DL.dI, DL.dB, DL.dS, k13', k7, gt, hAl, d1, ha, bne_self_eq_false, Bool.not_true, DL.wrap_id]
                exact ⟨c4, ⟨_, rfl⟩, rfl⟩
              · have e2 : decide ((a.length : Int) ≤ 8192) = false := decide_eq_false (by omega)
                simp -dsimp -implicitDefEqProofs (maxSteps := 1000000) (disch := first | omega | (simp only [List.length_append, List.length_cons, List.length_nil]; omega) | (intros; simp only [ne_eq, reduceCtorEq, not_false_eq_true] <;> fail)) only [DL.R, Nat.reduceEqDiff, ↓reduceIte, reduceCtorEq, Int.reduceToNat, Int.reduceLE, Int.reduceLT, Nat.reduceLeDiff, Nat.reduceAdd, Nat.reduceMul, Int.reduceBNe, Int.reduceBEq, Int.cast_ofNat_Int, decide_true, decide_false, ne_eq, eq_self, implies_true, dc7_r0, dc7_r1, dc7_r2, dc7_r3, dc7_r4, dc7_r5, dc7_r6, dc7_r7, dc7_r9, dc7_r8, dc7_r10, dc7_r11, dc7_r12, dc7_r14, dc7_r15, dc7_r16, dc7_r17, dc7_r18, dc7_r19, dc7_r20, dc7_r21, dc7_r22, dc7_r13, dc7_r23, dc7, DL.dI, DL.dB, DL.dS, k13', k7, gt, hAl, d1, d2, e2, ha, bne_self_eq_false]
                refine print_spec hE y (by omega) (fun r hr => ruleB_len (hps.2 r hr) (by omega)) ?_
                simp -dsimp -implicitDefEqProofs (maxSteps := 1000000) (disch := first | omega | (simp only [List.length_append, List.length_cons, List.length_nil]; omega) | (intros; simp only [ne_eq, reduceCtorEq, not_false_eq_true] <;> fail)) only [DL.R, Nat.reduceEqDiff, ↓reduceIte, reduceCtorEq, Int.reduceToNat, Int.reduceLE, Int.reduceLT, Nat.reduceLeDiff, Nat.reduceAdd, Nat.reduceMul, Int.reduceBNe, Int.reduceBEq, Int.cast_ofNat_Int, decide_true, decide_false, ne_eq, eq_self, implies_true, dc7_r0, dc7_r1, dc7_r2, dc7_r3, dc7_r4, dc7_r5, dc7_r6, dc7_r7, dc7_r9, dc7_r8, dc7_r10, dc7_r11, dc7_r12, dc7_r14, dc7_r15, dc7_r16, dc7_r17, dc7_r18, dc7_r19, dc7_r20, dc7_r21, dc7_r22, dc7_r13, dc7_r23, dc7, DL.dI, DL.dB, DL.dS, k13', k7, gt, hAl, d1, ha, bne_self_eq_false, Bool.not_true, DL.wrap_id]
                refine parse_spec hE (printF y) hyl ?_
                rw [parse_eq, hyp]
                unfold parseD
                simp -dsimp -implicitDefEqProofs (maxSteps := 1000000) (disch := first | omega | (simp only [List.length_append, List.length_cons, List.length_nil]; omega) | (intros; simp only [ne_eq, reduceCtorEq, not_false_eq_true] <;> fail)) only [DL.R, Nat.reduceEqDiff, ↓reduceIte, reduceCtorEq, Int.reduceToNat, Int.reduceLE, Int.reduceLT, Nat.reduceLeDiff, Nat.reduceAdd, Nat.reduceMul, Int.reduceBNe, Int.reduceBEq, Int.cast_ofNat_Int, decide_true, decide_false, ne_eq, eq_self, implies_true, dc7_r0, dc7_r1, dc7_r2, dc7_r3, dc7_r4, dc7_r5, dc7_r6, dc7_r7, dc7_r9, dc7_r8, dc7_r10, dc7_r11, dc7_r12, dc7_r14, dc7_r15, dc7_r16, dc7_r17, dc7_r18, dc7_r19, dc7_r20, dc7_r21, dc7_r22, dc7_r13, dc7_r23, dc7, DL.dI, DL.dB, DL.dS, k13', k7, gt, hAl, d1, ha, bne_self_eq_false, Bool.not_true, DL.wrap_id]
                refine valid_spec hE y (by omega) (fun r hr => ruleB_len (hps.2 r hr) (by omega)) ?_
                rw [hyv]
                simp -dsimp -implicitDefEqProofs (maxSteps := 1000000) (disch := first | omega | (simp only [List.length_append, List.length_cons, List.length_nil]; omega) | (intros; simp only [ne_eq, reduceCtorEq, not_false_eq_true] <;> fail)) only [DL.R, Nat.reduceEqDiff, ↓reduceIte, reduceCtorEq, Int.reduceToNat, Int.reduceLE, Int.reduceLT, Nat.reduceLeDiff, Nat.reduceAdd, Nat.reduceMul, Int.reduceBNe, Int.reduceBEq, Int.cast_ofNat_Int, decide_true, decide_false, ne_eq, eq_self, implies_true, dc7_r0, dc7_r1, dc7_r2, dc7_r3, dc7_r4, dc7_r5, dc7_r6, dc7_r7, dc7_r9, dc7_r8, dc7_r10, dc7_r11, dc7_r12, dc7_r14, dc7_r15, dc7_r16, dc7_r17, dc7_r18, dc7_r19, dc7_r20, dc7_r21, dc7_r22, dc7_r13, dc7_r23, dc7, DL.dI, DL.dB, DL.dS, k13', k7, gt, hAl, d1, ha, bne_self_eq_false, Bool.not_true, DL.wrap_id]
                refine sameRules_spec y y (by omega) (fun r hr => by have := (hps.2 r hr).2.2; omega) ?_
                rw [sameRules_refl]
                simp -dsimp -implicitDefEqProofs (maxSteps := 1000000) (disch := first | omega | (simp only [List.length_append, List.length_cons, List.length_nil]; omega) | (intros; simp only [ne_eq, reduceCtorEq, not_false_eq_true] <;> fail)) only [DL.R, Nat.reduceEqDiff, ↓reduceIte, reduceCtorEq, Int.reduceToNat, Int.reduceLE, Int.reduceLT, Nat.reduceLeDiff, Nat.reduceAdd, Nat.reduceMul, Int.reduceBNe, Int.reduceBEq, Int.cast_ofNat_Int, decide_true, decide_false, ne_eq, eq_self, implies_true, dc7_r0, dc7_r1, dc7_r2, dc7_r3, dc7_r4, dc7_r5, dc7_r6, dc7_r7, dc7_r9, dc7_r8, dc7_r10, dc7_r11, dc7_r12, dc7_r14, dc7_r15, dc7_r16, dc7_r17, dc7_r18, dc7_r19, dc7_r20, dc7_r21, dc7_r22, dc7_r13, dc7_r23, dc7, DL.dI, DL.dB, DL.dS, k13', k7, gt, hAl, d1, ha, bne_self_eq_false, Bool.not_true, DL.wrap_id]
                exact ⟨c4, ⟨_, rfl⟩, rfl⟩
            · have d2 : decide ((i : Int) < 2) = false := decide_eq_false (by omega)
              simp -dsimp -implicitDefEqProofs (maxSteps := 1000000) (disch := first | omega | (simp only [List.length_append, List.length_cons, List.length_nil]; omega) | (intros; simp only [ne_eq, reduceCtorEq, not_false_eq_true] <;> fail)) only [DL.R, Nat.reduceEqDiff, ↓reduceIte, reduceCtorEq, Int.reduceToNat, Int.reduceLE, Int.reduceLT, Nat.reduceLeDiff, Nat.reduceAdd, Nat.reduceMul, Int.reduceBNe, Int.reduceBEq, Int.cast_ofNat_Int, decide_true, decide_false, ne_eq, eq_self, implies_true, dc7_r0, dc7_r1, dc7_r2, dc7_r3, dc7_r4, dc7_r5, dc7_r6, dc7_r7, dc7_r9, dc7_r8, dc7_r10, dc7_r11, dc7_r12, dc7_r14, dc7_r15, dc7_r16, dc7_r17, dc7_r18, dc7_r19, dc7_r20, dc7_r21, dc7_r22, dc7_r13, dc7_r23, dc7, DL.dI, DL.dB, DL.dS, k13', k7, gt, hAl, d1, d2, ha, bne_self_eq_false]
              refine print_spec hE y (by omega) (fun r hr => ruleB_len (hps.2 r hr) (by omega)) ?_
              simp -dsimp -implicitDefEqProofs (maxSteps := 1000000) (disch := first | omega | (simp only [List.length_append, List.length_cons, List.length_nil]; omega) | (intros; simp only [ne_eq, reduceCtorEq, not_false_eq_true] <;> fail)) only [DL.R, Nat.reduceEqDiff, ↓reduceIte, reduceCtorEq, Int.reduceToNat, Int.reduceLE, Int.reduceLT, Nat.reduceLeDiff, Nat.reduceAdd, Nat.reduceMul, Int.reduceBNe, Int.reduceBEq, Int.cast_ofNat_Int, decide_true, decide_false, ne_eq, eq_self, implies_true, dc7_r0, dc7_r1, dc7_r2, dc7_r3, dc7_r4, dc7_r5, dc7_r6, dc7_r7, dc7_r9, dc7_r8, dc7_r10, dc7_r11, dc7_r12, dc7_r14, dc7_r15, dc7_r16, dc7_r17, dc7_r18, dc7_r19, dc7_r20, dc7_r21, dc7_r22, dc7_r13, dc7_r23, dc7, DL.dI, DL.dB, DL.dS, k13', k7, gt, hAl, d1, ha, bne_self_eq_false, Bool.not_true, DL.wrap_id]
              refine parse_spec hE (printF y) hyl ?_
              rw [parse_eq, hyp]
              unfold parseD
              simp -dsimp -implicitDefEqProofs (maxSteps := 1000000) (disch := first | omega | (simp only [List.length_append, List.length_cons, List.length_nil]; omega) | (intros; simp only [ne_eq, reduceCtorEq, not_false_eq_true] <;> fail)) only [DL.R, Nat.reduceEqDiff, ↓reduceIte, reduceCtorEq, Int.reduceToNat, Int.reduceLE, Int.reduceLT, Nat.reduceLeDiff, Nat.reduceAdd, Nat.reduceMul, Int.reduceBNe, Int.reduceBEq, Int.cast_ofNat_Int, decide_true, decide_false, ne_eq, eq_self, implies_true, dc7_r0, dc7_r1, dc7_r2, dc7_r3, dc7_r4, dc7_r5, dc7_r6, dc7_r7, dc7_r9, dc7_r8, dc7_r10, dc7_r11, dc7_r12, dc7_r14, dc7_r15, dc7_r16, dc7_r17, dc7_r18, dc7_r19, dc7_r20, dc7_r21, dc7_r22, dc7_r13, dc7_r23, dc7, DL.dI, DL.dB, DL.dS, k13', k7, gt, hAl, d1, ha, bne_self_eq_false, Bool.not_true, DL.wrap_id]
              refine valid_spec hE y (by omega) (fun r hr => ruleB_len (hps.2 r hr) (by omega)) ?_
              rw [hyv]
              simp -dsimp -implicitDefEqProofs (maxSteps := 1000000) (disch := first | omega | (simp only [List.length_append, List.length_cons, List.length_nil]; omega) | (intros; simp only [ne_eq, reduceCtorEq, not_false_eq_true] <;> fail)) only [DL.R, Nat.reduceEqDiff, ↓reduceIte, reduceCtorEq, Int.reduceToNat, Int.reduceLE, Int.reduceLT, Nat.reduceLeDiff, Nat.reduceAdd, Nat.reduceMul, Int.reduceBNe, Int.reduceBEq, Int.cast_ofNat_Int, decide_true, decide_false, ne_eq, eq_self, implies_true, dc7_r0, dc7_r1, dc7_r2, dc7_r3, dc7_r4, dc7_r5, dc7_r6, dc7_r7, dc7_r9, dc7_r8, dc7_r10, dc7_r11, dc7_r12, dc7_r14, dc7_r15, dc7_r16, dc7_r17, dc7_r18, dc7_r19, dc7_r20, dc7_r21, dc7_r22, dc7_r13, dc7_r23, dc7, DL.dI, DL.dB, DL.dS, k13', k7, gt, hAl, d1, ha, bne_self_eq_false, Bool.not_true, DL.wrap_id]
              refine sameRules_spec y y (by omega) (fun r hr => by have := (hps.2 r hr).2.2; omega) ?_
              rw [sameRules_refl]
              simp -dsimp -implicitDefEqProofs (maxSteps := 1000000) (disch := first | omega | (simp only [List.length_append, List.length_cons, List.length_nil]; omega) | (intros; simp only [ne_eq, reduceCtorEq, not_false_eq_true] <;> fail)) only [DL.R, Nat.reduceEqDiff, ↓reduceIte, reduceCtorEq, Int.reduceToNat, Int.reduceLE, Int.reduceLT, Nat.reduceLeDiff, Nat.reduceAdd, Nat.reduceMul, Int.reduceBNe, Int.reduceBEq, Int.cast_ofNat_Int, decide_true, decide_false, ne_eq, eq_self, implies_true, dc7_r0, dc7_r1, dc7_r2, dc7_r3, dc7_r4, dc7_r5, dc7_r6, dc7_r7, dc7_r9, dc7_r8, dc7_r10, dc7_r11, dc7_r12, dc7_r14, dc7_r15, dc7_r16, dc7_r17, dc7_r18, dc7_r19, dc7_r20, dc7_r21, dc7_r22, dc7_r13, dc7_r23, dc7, DL.dI, DL.dB, DL.dS, k13', k7, gt, hAl, d1, ha, bne_self_eq_false, Bool.not_true, DL.wrap_id]
              exact ⟨c4, ⟨_, rfl⟩, rfl⟩
          · have hno := refP_no (l := a) (by rw [hyn]; exact hn)
            rw [hyn] at hno
            simp only at hno
            obtain ⟨rfl, hn0⟩ := hno
            have n1 : (n != -1) = true := by simp [hn]
            have n2 : decide (n < 0) = false := decide_eq_false (by omega)
            have hnoA : ¬ (i < 2 ∧ a.length ≤ 8192) := fun h => by
              have := hA2 i h.1 a hai h.2
              rw [hyn] at this
              exact hn (congrArg Prod.snd this)
            have hnil : (rulesD []).length = 0 := rfl
            have h00 : decide ((0 : Int) > 0) = false := rfl
            by_cases c2 : i < 2
            · have d2 : decide ((i : Int) < 2) = true := decide_eq_true (by omega)
              have e2 : decide ((a.length : Int) ≤ 8192) = false := decide_eq_false (by omega)
              simp -dsimp -implicitDefEqProofs (maxSteps := 1000000) (disch := first | omega | (simp only [List.length_append, List.length_cons, List.length_nil]; omega) | (intros; simp only [ne_eq, reduceCtorEq, not_false_eq_true] <;> fail)) only [DL.R, Nat.reduceEqDiff, ↓reduceIte, reduceCtorEq, Int.reduceToNat, Int.reduceLE, Int.reduceLT, Nat.reduceLeDiff, Nat.reduceAdd, Nat.reduceMul, Int.reduceBNe, Int.reduceBEq, Int.cast_ofNat_Int, decide_true, decide_false, ne_eq, eq_self, implies_true, dc7_r0, dc7_r1, dc7_r2, dc7_r3, dc7_r4, dc7_r5, dc7_r6, dc7_r7, dc7_r9, dc7_r8, dc7_r10, dc7_r11, dc7_r12, dc7_r14, dc7_r15, dc7_r16, dc7_r17, dc7_r18, dc7_r19, dc7_r20, dc7_r21, dc7_r22, dc7_r13, dc7_r23, dc7, DL.dI, DL.dB, DL.dS, k13', k7, gt, hAl, d1, d2, e2, n1, n2, ha, hnil, h00, DL.wrap_id]
              exact ⟨c4, ⟨_, rfl⟩, rfl⟩
            · have d2 : decide ((i : Int) < 2) = false := decide_eq_false (by omega)
              simp -dsimp -implicitDefEqProofs (maxSteps := 1000000) (disch := first | omega | (simp only [List.length_append, List.length_cons, List.length_nil]; omega) | (intros; simp only [ne_eq, reduceCtorEq, not_false_eq_true] <;> fail)) only [DL.R, Nat.reduceEqDiff, ↓reduceIte, reduceCtorEq, Int.reduceToNat, Int.reduceLE, Int.reduceLT, Nat.reduceLeDiff, Nat.reduceAdd, Nat.reduceMul, Int.reduceBNe, Int.reduceBEq, Int.cast_ofNat_Int, decide_true, decide_false, ne_eq, eq_self, implies_true, dc7_r0, dc7_r1, dc7_r2, dc7_r3, dc7_r4, dc7_r5, dc7_r6, dc7_r7, dc7_r9, dc7_r8, dc7_r10, dc7_r11, dc7_r12, dc7_r14, dc7_r15, dc7_r16, dc7_r17, dc7_r18, dc7_r19, dc7_r20, dc7_r21, dc7_r22, dc7_r13, dc7_r23, dc7, DL.dI, DL.dB, DL.dS, k13', k7, gt, hAl, d1, d2, n1, n2, ha, hnil, h00, DL.wrap_id]
              exact ⟨c4, ⟨_, rfl⟩, rfl⟩
        · have d1 : decide ((i : Int) < 4) = false := decide_eq_false (by omega)
          simp -dsimp -implicitDefEqProofs (maxSteps := 1000000) (disch := first | omega | (simp only [List.length_append, List.length_cons, List.length_nil]; omega) | (intros; simp only [ne_eq, reduceCtorEq, not_false_eq_true] <;> fail)) only [DL.R, Nat.reduceEqDiff, ↓reduceIte, reduceCtorEq, Int.reduceToNat, Int.reduceLE, Int.reduceLT, Nat.reduceLeDiff, Nat.reduceAdd, Nat.reduceMul, Int.reduceBNe, Int.reduceBEq, Int.cast_ofNat_Int, decide_true, decide_false, ne_eq, eq_self, implies_true, dc7_r0, dc7_r1, dc7_r2, dc7_r3, dc7_r4, dc7_r5, dc7_r6, dc7_r7, dc7_r9, dc7_r8, dc7_r10, dc7_r11, dc7_r12, dc7_r14, dc7_r15, dc7_r16, dc7_r17, dc7_r18, dc7_r19, dc7_r20, dc7_r21, dc7_r22, dc7_r13, dc7_r23, dc7, DL.dI, DL.dB, DL.dS, k13, k7, gt, hAL, d1]
          refine lives_spec hE ?_
          simp -dsimp -implicitDefEqProofs (maxSteps := 1000000) (disch := first | omega | (simp only [List.length_append, List.length_cons, List.length_nil]; omega) | (intros; simp only [ne_eq, reduceCtorEq, not_false_eq_true] <;> fail)) only [DL.R, Nat.reduceEqDiff, ↓reduceIte, reduceCtorEq, Int.reduceToNat, Int.reduceLE, Int.reduceLT, Nat.reduceLeDiff, Nat.reduceAdd, Nat.reduceMul, Int.reduceBNe, Int.reduceBEq, Int.cast_ofNat_Int, decide_true, decide_false, ne_eq, eq_self, implies_true, dc7_r0, dc7_r1, dc7_r2, dc7_r3, dc7_r4, dc7_r5, dc7_r6, dc7_r7, dc7_r9, dc7_r8, dc7_r10, dc7_r11, dc7_r12, dc7_r14, dc7_r15, dc7_r16, dc7_r17, dc7_r18, dc7_r19, dc7_r20, dc7_r21, dc7_r22, dc7_r13, dc7_r23, dc7, DL.dI, DL.dB, DL.dS]
          exact ⟨_, rfl, .lit _, hQ⟩
end Go.Proofs.Tryd
set_option linter.unusedVariables false
set_option linter.unusedSimpArgs false
namespace Go.DL
open Go
def conc0 (W : World) : Conc := ⟨fun a => W.cell? a, fun _ => undef⟩
theorem relH0 {W : World} {F : Frm} (hF : F.w0 = W) : RelH F (conc0 W) [] W := by
  subst hF
  exact ⟨fun a v h => h, fun id o h => by simp at h, fun i j b hi => by simp at hi, fun i b hi => by simp at hi, ⟨rfl, rfl, rfl, Nat.le_refl _, fun _ _ => rfl⟩⟩
theorem frm0 {W : World} {e : TypeId} {fz : Nat × Nat} (h : W.heap[tabAt]? = some (.cells (Lib.pow10Tab.map fun z => Value.int .u64 z).toArray e fz)) :
    ∃ F : Frm, F.w0 = W ∧ ∀ b, b < W.heap.size → F.prot b :=
  ⟨⟨W, fun b => b < W.heap.size, fun _ h => h, (Array.getElem?_eq_some_iff.1 h).1, e, fz, h⟩, rfl, fun _ h => h⟩
theorem below0 {F : Frm} {W W' : World} (hF : F.w0 = W) (hp : ∀ b, b < W.heap.size → F.prot b) (h : Keeps F W') : RowKit.Below W.heap.size W W' := by
  subst hF
  exact ⟨h.os, h.tape, h.output, h.size, fun k hk => h.block k (hp k hk)⟩
section
variable {T : Type} {enc : TypeId × Value → T} {P : Program} {W : World} {sp : Nat → Bool} {held : Bool}
theorem rd_ints {t e : TypeId} {k : IntKind} {v : Value} {d : DataW T} {ps : List MemPlace} (ht : P.underlying t = some (.slice e)) (he : P.underlying e = some (.int k)) (hc : P.cellsOf e = 1)
    (h : DataW.Trod enc P W 0 sp held t v d ps) (hv : ∀ v', v.cells.toList = [v'] → v = v') :
    ∃ l : List Int, RdV (conc0 W) [] (.sl (l.map fun n => .lit (.int k n))) v ∧ (∀ n ∈ l, (Lit.int k n).wf = true) ∧ (l = [] ∨ ∃ sp, d = .slice (l.map fun n => .lit (.int k n)) sp) := by
  obtain ⟨fuel, h⟩ := h
  rcases Go.ChangeShapes.open_ints ht he hc h with ⟨h1, -⟩ | ⟨a, len, cap, zs, h1, -, hl, -, hz, hx, hcell, hwf⟩
  · refine ⟨[], ?_, by simp, Or.inl rfl⟩
    rw [hv _ h1]
    exact .sl [] none ⟨0, 0, none⟩ 0 1 (fun _ _ => undef) (by simp) (by simp) (by simp) (by simp) (by simp) (by simp)
  · have hle : len ≤ zs.length := by rw [hz]; split <;> omega
    refine ⟨zs.take len, ?_, fun n hn => hwf n (List.mem_of_mem_take hn), Or.inr ⟨Go.ChangeShapes.lits k (zs.drop len), ?_⟩⟩
    · rw [hv _ h1]
      have hlen : (zs.take len).length = len := by simp; omega
      have key := RdV.sl (c := conc0 W) (H := []) ((zs.take len).map fun n => .lit (.int k n)) (some a) a cap 1 (fun j _ => .int k (zs.getD j 0)) (by simp; omega) (fun _ => rfl)
        (by intro j hj; simp [D.leaves]) (by intro j hj i hi; simp [D.leaves] at hi ⊢; rfl)
        (by
          intro j hj i hi
          have hi0 : i = 0 := by simp [D.leaves] at hi; omega
          subst hi0
          show W.cell? _ = _
          have := hcell j (by simp at hj; omega)
          simpa using this)
        (by
          intro j hj i hi
          have hi0 : i = 0 := by simp [D.leaves] at hi; omega
          subst hi0
          have hj' : j < zs.length := by simp at hj; omega
          have : zs.getD j 0 = zs[j] := by simp [List.getD, hj']
          rw [this]
          simp [D.leaves]
          exact .lit _)
      rw [List.length_map, hlen] at key
      exact key
    · have := congrArg Prod.fst hx
      simpa [Go.ChangeShapes.lits] using this
theorem cells_of_strs {fuel n : Nat} {t e : TypeId} {cs : List Value} {ls : List (List UInt8)} {p : List MemPlace} (ht : P.underlying t = some (.array n e)) (he : P.underlying e = some .string)
    (hce : P.cellsOf e = 1) (hct : P.cellsOf t = n) (h : DataW.trod enc P W 0 sp held fuel t cs = some (.agg (ls.map fun l => .lit (.string l)), p)) :
    cs.length = ls.length ∧ ∀ i (hi : i < ls.length), cs[i]? = some (.string (str ls[i])) := by
  obtain ⟨xs, m, rfl, hx, hlen, hn, hel⟩ := DataW.trod_array ht h
  have hxs : xs.map (·.1) = ls.map fun l => (DataW.lit (.string l) : DataW T) := by
    have := congrArg Prod.fst hx
    simpa using this.symm
  have hl : ls.length = n := by have := congrArg List.length hxs; simp at this; omega
  refine ⟨by omega, fun i hi => ?_⟩
  have h1 := hel i (by omega)
  rw [hce, Nat.mul_one] at h1
  have hxi : i < xs.length := by omega
  rw [List.getElem?_eq_getElem hxi] at h1
  obtain ⟨s, hc, hx1, _⟩ := DataW.trod_string he h1
  have h2 := congrArg (·[0]?) hc
  have h3 : cs[i]? = some (.string s) := by simpa [List.getElem?_take, List.getElem?_drop] using h2
  have h4 := congrArg (·[i]?) hxs
  simp only [List.getElem?_map, List.getElem?_eq_getElem hxi, List.getElem?_eq_getElem hi, Option.map_some, hx1, Option.some.injEq, DataW.lit.injEq, Lit.string.injEq] at h4
  rw [h3]
  congr 2
  rw [← h4]
  simp [str]
theorem laid_mem {l : List (String × DataW Unit)} : ∀ {ps : List MemPlace}, DataW.LaidVars P W l ps → ∀ n d, (n, d) ∈ l →
    ∃ g t cs fuel p, P.globalNamed n = some g ∧ (P.globals[g]?).map (·.type) = some t ∧ W.var? P n = some cs ∧ DataW.trod (fun _ => ()) P W 0 (fun _ => true) false fuel t cs.toList = some (d, p) := by
  induction l with
  | nil => intro ps _ n d h; cases h
  | cons x r ih =>
    intro ps h n d hm
    obtain ⟨n', d'⟩ := x
    obtain ⟨g, t, cs, fuel, p, q, h1, h2, h3, h4, h5, -⟩ := h
    cases hm with
    | head => exact ⟨g, t, cs, fuel, p, h1, h2, h3, h4⟩
    | tail _ hm => exact ih h5 n d hm
theorem laid_at {l : List (String × DataW Unit)} (h : laidMetH P l W) {n : String} {d : DataW Unit} (hm : (n, d) ∈ l) (hd : d.handleName?.isNone = true) {g : Nat} {t : TypeId} (hg : P.globalNamed n = some g) (ht : (P.globals[g]?).map (·.type) = some t) :
    ∃ cs fuel p, W.var? P n = some cs ∧ DataW.trod (fun _ => ()) P W 0 (fun _ => true) false fuel t cs.toList = some (d, p) := by
  obtain ⟨⟨ps, h1, -⟩, -⟩ := laidMetH_iff.1 h
  obtain ⟨g', t', cs, fuel, p, k1, k2, k3, k4⟩ := laid_mem h1 n d (List.mem_filter.2 ⟨hm, hd⟩)
  rw [hg] at k1
  cases k1
  rw [ht] at k2
  cases k2
  exact ⟨cs, fuel, p, k3, k4⟩
theorem rd_strs {l : List (String × DataW Unit)} (h : laidMetH P l W) {n : String} {ls : List (List UInt8)} (hm : (n, DataW.agg (ls.map fun l => .lit (.string l))) ∈ l) {g : Nat} {t e : TypeId} {m : Nat}
    (hg : P.globalNamed n = some g) (hty : (P.globals[g]?).map (·.type) = some t) (ht : P.underlying t = some (.array m e)) (he : P.underlying e = some .string) (hce : P.cellsOf e = 1) (hct : P.cellsOf t = m) :
    RdV (conc0 W) [] (.el (ls.map fun x => .lit (.string (str x)))) (.pointer (some ⟨g, 0, none⟩)) := by
  obtain ⟨cs, fuel, p, hv, hd⟩ := laid_at h hm rfl hg hty
  obtain ⟨hl, hc⟩ := cells_of_strs ht he hce hct hd
  refine .el _ _ (fun i => .string (str (ls.getD i []))) (by intro i hi; simp; rfl) ?_ ?_
  · intro i hi
    show W.cell? _ = _
    have hi' : i < ls.length := by simpa using hi
    have h1 := World.var?_cell hg hv i
    have h2 := hc i hi'
    have ha : (⟨g, 0, none⟩ : Addr).add i = ⟨g, i, none⟩ := by cases i <;> simp [Addr.add]
    rw [ha, h1]
    simpa [List.getD, hi'] using h2
  · intro i hi
    have hi' : i < ls.length := by simpa using hi
    simp [List.getD, hi']
    exact .lit _
theorem rd_err {l : List (String × DataW Unit)} (h : laidMetH P l W) {n nm : String} {d : DataW Unit} (hm : (n, DataW.iface nm d) ∈ l) (hd : (DataW.iface nm d).handleName?.isNone = true) {g : Nat} {t : TypeId} {ms : Array (String × TypeId)}
    (hg : P.globalNamed n = some g) (hty : (P.globals[g]?).map (·.type) = some t) (ht : P.underlying t = some (.interface ms)) :
    RdV (conc0 W) [] (.el [.nn]) (.pointer (some ⟨g, 0, none⟩)) := by
  obtain ⟨cs, fuel, p, hv, hr⟩ := laid_at h hm hd hg hty
  obtain ⟨f', u, v, hc, -, -⟩ := iface_of_trod ht hr
  refine .el _ _ (fun _ => .iface u v) (by intro i hi; simp at hi; subst hi; rfl) ?_ ?_
  · intro i hi
    have hi0 : i = 0 := by simpa using hi
    subst hi0
    have h1 := World.var?_cell hg hv 0
    show W.cell? ⟨g, 0, none⟩ = _
    rw [h1, ← Array.getElem?_toList, hc]
    rfl
  · intro i hi
    have hi0 : i = 0 := by simpa using hi
    subst hi0
    exact .nn u v
theorem rd_tab {l : List (String × DataW Unit)} (h : laidMetH P l W) {n : String} {k : IntKind} {zs : List Int} (hm : (n, Lib.tabData k zs) ∈ l) {g : Nat} {t e : TypeId} {m : Nat}
    (hg : P.globalNamed n = some g) (hty : (P.globals[g]?).map (·.type) = some t) (ht : P.underlying t = some (.array m e)) (he : P.underlying e = some (.int k)) (hce : P.cellsOf e = 1) (hct : P.cellsOf t = m) :
    ∃ e fz, W.heap[g]? = some (.cells (zs.map fun z => Value.int k z).toArray e fz) := by
  obtain ⟨cs, fuel, p, hv, hd⟩ := laid_at h hm rfl hg hty
  have := Lib.cells_of_tab ht he hce hct hd
  have hcs : cs = (zs.map fun z => Value.int k z).toArray := by rw [← this]
  simp only [World.var?, hg, Option.bind_some] at hv
  split at hv
  · rename_i c e' f' hh
    simp only [Option.some.injEq] at hv
    exact ⟨e', f', by rw [hh, hv, hcs]⟩
  · cases hv
end
end Go.DL
namespace Go.DL
open Go
theorem name_inj {a b : String} (h : a.toUTF8.data.toList = b.toUTF8.data.toList) : a = b :=
  String.toByteArray_inj.1 (by
    have h1 : a.toUTF8.data = b.toUTF8.data := Array.toList_inj.1 h
    have h2 : ∀ x y : ByteArray, x.data = y.data → x = y := by rintro ⟨x⟩ ⟨y⟩ rfl; rfl
    exact h2 _ _ h1)
section
variable {P : Program} {W : World} {sp : Nat → Bool}
theorem fn_cell {t : TypeId} {ps rs : Array TypeId} {vd : Bool} {fuel : Nat} {cs : List Value} {b : List UInt8} {s : String} {f : FuncId} {q : List MemPlace} (ht : P.underlying t = some (.func ps rs vd)) (hb : b = s.toUTF8.data.toList) (hne : b ≠ []) (hf : P.funcNamed s = some f)
    (h : DataW.trod (funcToken P) P W 0 sp true fuel t cs = some (.held b, q)) : cs = [.func (.func f) #[] #[]] := by
  obtain ⟨v, rfl, hv, hy⟩ := RowKit.func_of_trod ht h
  have h1 : RowKit.veil (funcToken P) t v = .held b := (congrArg Prod.fst hy).symm
  have h2 : funcToken P (t, v) = b := by
    cases v <;> simp only [RowKit.IsFunc] at hv
    · simpa only [RowKit.veil, DataW.held.injEq] using h1
    · cases h1
  obtain ⟨x, r, rfl⟩ : ∃ x r, b = x :: r := by cases b with | nil => exact absurd rfl hne | cons x r => exact ⟨x, r, rfl⟩
  obtain ⟨f', fn, rfl, _, hn, hs⟩ := funcToken_tells h2
  rw [name_inj (hs.trans hb)] at hn
  rw [hn] at hf
  cases hf
  rfl
theorem rd_funcs22 {l : List (String × DataW Unit)} (h : laidMetH P l W) {n : String} {b1 b2 b3 b4 : List UInt8} {s1 s2 s3 s4 : String} {f1 f2 f3 f4 : FuncId} {g : Nat} {t u e : TypeId} {ps rs : Array TypeId} {vd : Bool}
    (hm : (n, DataW.iface "func table" (.agg [.agg [.iface "func" (.lit (.string b1)), .iface "func" (.lit (.string b2))], .agg [.iface "func" (.lit (.string b3)), .iface "func" (.lit (.string b4))]])) ∈ l)
    (hg : P.globalNamed n = some g) (hty : (P.globals[g]?).map (·.type) = some t) (ht : P.underlying t = some (.array 2 u)) (hu : P.underlying u = some (.array 2 e)) (he : P.underlying e = some (.func ps rs vd)) (ce : P.cellsOf e = 1) (cu : P.cellsOf u = 2) (ct : P.cellsOf t = 4)
    (e1 : b1 = s1.toUTF8.data.toList) (e2 : b2 = s2.toUTF8.data.toList) (e3 : b3 = s3.toUTF8.data.toList) (e4 : b4 = s4.toUTF8.data.toList) (n1 : b1 ≠ []) (n2 : b2 ≠ []) (n3 : b3 ≠ []) (n4 : b4 ≠ [])
    (k1 : P.funcNamed s1 = some f1) (k2 : P.funcNamed s2 = some f2) (k3 : P.funcNamed s3 = some f3) (k4 : P.funcNamed s4 = some f4) :
    RdV (conc0 W) [] (.el [.fn f1 [], .fn f2 [], .fn f3 [], .fn f4 []]) (.pointer (some ⟨g, 0, none⟩)) := by
  obtain ⟨g', t', cs, fuel, p, q1, q2, q3, q4⟩ := h.funcs hm
  rw [hg] at q1; cases q1
  rw [hty] at q2; cases q2
  have hout : (DataW.agg [.agg [.iface "func" (.lit (.string b1)), .iface "func" (.lit (.string b2))], .agg [.iface "func" (.lit (.string b3)), .iface "func" (.lit (.string b4))]] : DataW Unit).funcsOut = .agg [.agg [.held b1, .held b2], .agg [.held b3, .held b4]] := by
    obtain ⟨x1, r1, rfl⟩ : ∃ x r, b1 = x :: r := by cases b1 with | nil => exact absurd rfl n1 | cons x r => exact ⟨x, r, rfl⟩
    obtain ⟨x2, r2, rfl⟩ : ∃ x r, b2 = x :: r := by cases b2 with | nil => exact absurd rfl n2 | cons x r => exact ⟨x, r, rfl⟩
    obtain ⟨x3, r3, rfl⟩ : ∃ x r, b3 = x :: r := by cases b3 with | nil => exact absurd rfl n3 | cons x r => exact ⟨x, r, rfl⟩
    obtain ⟨x4, r4, rfl⟩ : ∃ x r, b4 = x :: r := by cases b4 with | nil => exact absurd rfl n4 | cons x r => exact ⟨x, r, rfl⟩
    simp [DataW.funcsOut, DataW.funcsOutAll]
  rw [hout] at q4
  obtain ⟨xs, m, rfl, hx, hlen, hn, hel⟩ := DataW.trod_array ht q4
  obtain ⟨y0, y1, rfl⟩ : ∃ a b, xs = [a, b] := by
    match xs, hn with
    | [a, b], _ => exact ⟨a, b, rfl⟩
  simp only [List.map_cons, List.map_nil, Prod.mk.injEq, DataW.agg.injEq, List.cons.injEq, and_true] at hx
  obtain ⟨⟨z0, z1⟩, -⟩ := hx
  have r0 := hel 0 (by decide)
  have r1 := hel 1 (by decide)
  rw [cu] at r0 r1
  have row : ∀ (c : List Value) (y : DataW (List UInt8) × List MemPlace) (a b : List UInt8) (sa sb : String) (fa fb : FuncId), DataW.trod (funcToken P) P W 0 (fun _ => true) true m u c = some y → DataW.agg [.held a, .held b] = y.1 →
      a = sa.toUTF8.data.toList → b = sb.toUTF8.data.toList → a ≠ [] → b ≠ [] → P.funcNamed sa = some fa → P.funcNamed sb = some fb → c = [.func (.func fa) #[] #[], .func (.func fb) #[] #[]] := by
    intro c y a b sa sb fa fb hr hy ea eb na nb ka kb
    obtain ⟨ys, m', rfl, hx, hlen, hn, hel⟩ := DataW.trod_array hu hr
    obtain ⟨w0, w1, rfl⟩ : ∃ a b, ys = [a, b] := by
      match ys, hn with
      | [a, b], _ => exact ⟨a, b, rfl⟩
    rw [hx] at hy
    simp only [List.map_cons, List.map_nil, DataW.agg.injEq, List.cons.injEq, and_true] at hy
    have u0 := hel 0 (by decide)
    have u1 := hel 1 (by decide)
    rw [ce] at u0 u1
    have v0 := fn_cell he ea na ka (q := w0.2) (by rw [hy.1]; exact u0)
    have v1 := fn_cell he eb nb kb (q := w1.2) (by rw [hy.2]; exact u1)
    rw [cu] at hlen
    match c, hlen with
    | [c0, c1], _ =>
      simp at v0 v1
      rw [v0, v1]
  have a0 := row _ y0 b1 b2 s1 s2 f1 f2 r0 z0 e1 e2 n1 n2 k1 k2
  have a1 := row _ y1 b3 b4 s3 s4 f3 f4 r1 z1 e3 e4 n3 n4 k3 k4
  rw [ct] at hlen
  have hcs : cs.toList = [.func (.func f1) #[] #[], .func (.func f2) #[] #[], .func (.func f3) #[] #[], .func (.func f4) #[] #[]] := by
    match h : cs.toList, hlen with
    | [c0, c1, c2, c3], _ =>
      rw [h] at a0 a1
      simp at a0 a1
      rw [a0.1, a0.2, a1.1, a1.2]
  have cell : ∀ i, W.cell? ⟨g, i, none⟩ = cs.toList[i]? := fun i => by rw [World.var?_cell hg q3 i, Array.getElem?_toList]
  rw [hcs] at cell
  refine .el _ _ (fun i => match i with | 0 => .func (.func f1) #[] #[] | 1 => .func (.func f2) #[] #[] | 2 => .func (.func f3) #[] #[] | _ => .func (.func f4) #[] #[]) ?_ ?_ ?_
  · intro i hi
    match i, hi with
    | 0, _ => rfl
    | 1, _ => rfl
    | 2, _ => rfl
    | 3, _ => rfl
  · intro i hi
    match i, hi with
    | 0, _ => exact cell 0
    | 1, _ => exact cell 1
    | 2, _ => exact cell 2
    | 3, _ => exact cell 3
  · intro i hi
    match i, hi with
    | 0, _ => exact .fn f1 [] #[] rfl (by simp)
    | 1, _ => exact .fn f2 [] #[] rfl (by simp)
    | 2, _ => exact .fn f3 [] #[] rfl (by simp)
    | 3, _ => exact .fn f4 [] #[] rfl (by simp)
end
end Go.DL
set_option maxRecDepth 100000
set_option linter.unusedVariables false
namespace Go.Proofs.Tryd
open Go Go.DL Go.Proofs.YtoehhfhjnjfgiaaDoor
def glob : Nat → D
  | 0 => .el (strs kindsL)
  | 1 => .el (strs kwL)
  | 2 => kindsD
  | 3 => .el (strs signsL)
  | 6 => .el [.nn]
  | _ => .junk
theorem env_glob : Env glob := ⟨rfl, rfl, rfl, rfl, Or.inl rfl⟩
def laidL : List (String × DataW Unit) := Rows.rulesEnoughUptoRow.laid
theorem g0 : Tryd.prog.globalNamed "splicery/rules.kinds" = some 0 := by kernel_rfl
theorem g1 : Tryd.prog.globalNamed "splicery/lex.keywords" = some 1 := by kernel_rfl
theorem g2 : Tryd.prog.globalNamed "splicery/lex.kinds" = some 2 := by kernel_rfl
theorem g3 : Tryd.prog.globalNamed "splicery/lex.signs" = some 3 := by kernel_rfl
theorem g4 : Tryd.prog.globalNamed "internal/strconv.uint64pow10" = some 4 := by kernel_rfl
theorem g6 : Tryd.prog.globalNamed "strconv.ErrSyntax" = some 6 := by kernel_rfl
theorem ty0 : (Tryd.prog.globals[0]?).map (·.type) = some 90 := by kernel_rfl
theorem ty1 : (Tryd.prog.globals[1]?).map (·.type) = some 92 := by kernel_rfl
theorem ty2 : (Tryd.prog.globals[2]?).map (·.type) = some 97 := by kernel_rfl
theorem ty3 : (Tryd.prog.globals[3]?).map (·.type) = some 98 := by kernel_rfl
theorem ty4 : (Tryd.prog.globals[4]?).map (·.type) = some 119 := by kernel_rfl
theorem ty6 : (Tryd.prog.globals[6]?).map (·.type) = some 82 := by kernel_rfl
theorem c3 : Tryd.prog.cellsOf 3 = 1 := by kernel_rfl
theorem c9 : Tryd.prog.cellsOf 9 = 1 := by kernel_rfl
theorem c90 : Tryd.prog.cellsOf 90 = 14 := by kernel_rfl
theorem c91 : Tryd.prog.cellsOf 91 = 1 := by kernel_rfl
theorem c92 : Tryd.prog.cellsOf 92 = 27 := by kernel_rfl
theorem c96 : Tryd.prog.cellsOf 96 = 2 := by kernel_rfl
theorem c97 : Tryd.prog.cellsOf 97 = 4 := by kernel_rfl
theorem c98 : Tryd.prog.cellsOf 98 = 18 := by kernel_rfl
theorem c106 : Tryd.prog.cellsOf 106 = 1 := by kernel_rfl
theorem c119 : Tryd.prog.cellsOf 119 = 20 := by kernel_rfl
theorem n52 : Tryd.prog.funcNamed "splicery/lex.letter" = some 52 := by kernel_rfl
theorem n108 : Tryd.prog.funcNamed "splicery/lex.either" = some 108 := by kernel_rfl
theorem n109 : Tryd.prog.funcNamed "splicery/lex.digit" = some 109 := by kernel_rfl
theorem glob_rd {W : World} (h : laidMetH Tryd.prog laidL W) (g : Nat) : RdV (conc0 W) [] (glob g) (.pointer (some ⟨g, 0, none⟩)) := by
  match g with
  | 0 => exact rd_strs (ls := kindsL) h (by simp [laidL, Rows.rulesEnoughUptoRow]; rfl) g0 ty0 Tryd.underlying90 Tryd.underlying9 c9 c90
  | 1 => exact rd_strs (ls := kwL) h (by simp [laidL, Rows.rulesEnoughUptoRow]; rfl) g1 ty1 Tryd.underlying92 Tryd.underlying9 c9 c92
  | 2 => exact rd_funcs22 h (s1 := "splicery/lex.letter") (s2 := "splicery/lex.either") (s3 := "splicery/lex.digit") (s4 := "splicery/lex.digit") (by simp [laidL, Rows.rulesEnoughUptoRow]; rfl) g2 ty2 Tryd.underlying97 Tryd.underlying96 Tryd.underlying91 c91 c96 c97 (by kernel_rfl) (by kernel_rfl) (by kernel_rfl) (by kernel_rfl) (by simp) (by simp) (by simp) (by simp) n52 n108 n109 n109
  | 3 => exact rd_strs (ls := signsL) h (by simp [laidL, Rows.rulesEnoughUptoRow]; rfl) g3 ty3 Tryd.underlying98 Tryd.underlying9 c9 c98
  | 4 => exact .junk _
  | 5 => exact .junk _
  | 6 => exact rd_err h (by simp [laidL, Rows.rulesEnoughUptoRow]; rfl) rfl g6 ty6 Tryd.underlying82
  | _ + 7 => exact .junk _
theorem tab_rd {W : World} (h : laidMetH Tryd.prog laidL W) : ∃ e fz, W.heap[tabAt]? = some (.cells (Lib.pow10Tab.map fun z => Value.int .u64 z).toArray e fz) :=
  rd_tab h (n := "internal/strconv.uint64pow10") (k := .u64) (zs := Lib.pow10Tab) (by simp [laidL, Rows.rulesEnoughUptoRow]; rfl) g4 ty4 Tryd.underlying119 Tryd.underlying106 c106 c119
end Go.Proofs.Tryd
set_option linter.unusedVariables false
set_option linter.unusedSimpArgs false
namespace Go.DL
open Go Go.ChangeShapes Go.RowKit
section
variable {T : Type} {enc : TypeId × Value → T} {P : Program} {W W' : World}
theorem trodAll_stays (hl : laidOutB P = true) (hb : RowKit.Below W.heap.size W W') {sp : Nat → Bool} : ∀ {ts : List TypeId} {vs : List Value} {ds : List (DataW T)} {ps : List MemPlace},
    (∀ t ∈ ts, P.readableRec t = true ∧ t < P.types.size) → DataW.TrodAll enc P W 0 (fun _ => true) true ts vs ds ps → (∀ x ∈ ps, x.block < W.heap.size) → (∀ x ∈ ps, sp x.block = true) → DataW.TrodAll enc P W' 0 sp true ts vs ds ps
  | [], vs, ds, ps, _, h, _, _ => by
    obtain ⟨rfl, rfl, rfl⟩ := trodAll_nil h
    exact rfl
  | t :: ts, vs, ds, ps, hr, h, hlt, hsp => by
    obtain ⟨v, vs', d, ds', p, q, rfl, rfl, rfl, h1, h2⟩ := trodAll_cons h
    have ht := hr t (.head _)
    exact ⟨p, q, WideElems.Trod_stays hl ht.1 ht.2 h1 (fun x hx => hb.same (hlt x (List.mem_append_left _ hx))) (fun x hx => hsp x (List.mem_append_left _ hx)),
      trodAll_stays hl hb (fun u hu => hr u (.tail _ hu)) h2 (fun x hx => hlt x (List.mem_append_right _ hx)) (fun x hx => hsp x (List.mem_append_right _ hx)), rfl⟩
theorem post_of_below {f : Func} {s : ChangeSpec} {apart fresh handsOn again : Bool} {args : Array Value} {v : Value} {ds : List (DataW T)} {before : List MemPlace} (hv : s.vars = [])
    (hl : laidOutB P = true) (hr : ∀ t ∈ f.params.toList, P.readableRec t = true ∧ t < P.types.size)
    (hW : DataW.Whole enc P f.params.toList s.vars apart W args.toList ds [] before) (hs : (s.fn T ds).args = ds) (hsv : (s.fn T ds).vars = [])
    (hres : ∀ (b : Nat) (sp : Nat → Bool) (hd : Bool), DataW.TrodAll enc P W' b sp hd f.resultTypes.toList (v.resultList f.resultTypes.size) (s.fn T ds).results [])
    (hb : RowKit.Below W.heap.size W W')
    (hok : ∀ (j : Nat) (t : TypeId) (r : Value), f.resultTypes[j]? = some t → (v.resultList f.resultTypes.size)[j]? = some r → Value.okWide P W' .any 0 t r) :
    s.post enc P f apart fresh handsOn again W args v W' := by
  have hlt : ∀ x ∈ before, x.block < W.heap.size := fun x hx => hW.lt x hx
  have hW0 := hW
  obtain ⟨p, q, hA, hV, rfl, hz, hn⟩ := hW
  rw [hv] at hV
  obtain ⟨-, rfl⟩ := trodVars_none hV
  have hargs : ∀ sp : Nat → Bool, (∀ x ∈ p ++ [], sp x.block = true) → DataW.TrodAll enc P W' 0 sp true f.params.toList args.toList (s.fn T (ds ++ [])).args p := by
    intro sp hsp
    rw [List.append_nil, hs]
    exact trodAll_stays hl hb hr hA (fun x hx => hlt x (List.mem_append_left _ hx)) (fun x hx => hsp x (List.mem_append_left _ hx))
  have hvars : ∀ sp : Nat → Bool, (∀ x ∈ p ++ [], sp x.block = true) → DataW.TrodVars enc P W' sp s.vars (s.fn T (ds ++ [])).vars [] := by
    intro sp _
    rw [List.append_nil, hsv, hv]
    exact rfl
  have hres' : ∀ (b : Nat) (sp : Nat → Bool) (hd : Bool), DataW.TrodAll enc P W' b sp hd f.resultTypes.toList (v.resultList f.resultTypes.size) (s.fn T (ds ++ [])).results [] := by
    rw [List.append_nil]; exact hres
  refine ⟨ds, [], p ++ [], [], p, [], hW0, hres' _ _ _, hargs (fun b => decide (b < W.heap.size)) (fun x hx => by simpa using hlt x hx), hvars (fun b => decide (b < W.heap.size)) (fun x hx => by simpa using hlt x hx), hb.frame _, fun _ => ?_⟩
  refine ⟨hok, _, _, ([] ++ p) ++ [], ⟨[] ++ p, [], trodAll_append (hargs _ (fun _ _ => rfl)) (hres' _ _ _), hvars _ (fun _ _ => rfl), rfl, ?_, ?_⟩, ?_⟩
  · intro b off hp
    have hp' : MemPlace.cell b off ∈ p ++ [] := by simpa using hp
    rw [hb.frozen (p := ⟨b, off, none⟩) (hlt _ hp')]
    exact hz b off hp'
  · intro ha
    simpa using hn ha
  · intro x hx _
    simpa using hx
theorem law_post {G : Nat → D} {f : FuncId} {fn : Func} {s : ChangeSpec} {apart fresh handsOn again : Bool} {args : Array Value} {ds : List (DataW T)} {before : List MemPlace} {cds : List D} {t4 : TypeId}
    (hc : CallA P G f cds [] (fun d _ => d = dB true)) (hG : ∀ g, RdV (conc0 W) [] (G g) (.pointer (some ⟨g, 0, none⟩)))
    (htab : ∃ e fz, W.heap[tabAt]? = some (.cells (Lib.pow10Tab.map fun z => Value.int .u64 z).toArray e fz))
    (hn : args.size = cds.length) (hr : ∀ i (h : i < cds.length), RdV (conc0 W) [] (cds[i]'h) (args.getD i undef))
    (hv : s.vars = []) (hl : laidOutB P = true) (hpr : ∀ t ∈ fn.params.toList, P.readableRec t = true ∧ t < P.types.size)
    (hW : DataW.Whole enc P fn.params.toList s.vars apart W args.toList ds [] before) (hs : s.fn T ds = { results := [.lit (.bool true)], args := ds })
    (hrt : fn.resultTypes = #[t4]) (hbool : P.underlying t4 = some .bool) :
    Calls P f args W fun e W' => ∃ v, e = .returned v ∧ s.post enc P fn apart fresh handsOn again W args v W' := by
  obtain ⟨e, fz, htab⟩ := htab
  obtain ⟨F, hF, hp⟩ := frm0 htab
  refine (hc.2 F (conc0 W) W args (relH0 hF) hG hn hr).mono ?_
  rintro e W' ⟨v, d, c', H', rfl, hRel, -, hrd, rfl⟩
  cases hrd
  refine ⟨_, rfl, ?_⟩
  refine post_of_below hv hl hpr hW (by rw [hs]) (by rw [hs]) ?_ (below0 hF hp hRel.keeps) (ok_one (by rw [hrt]) rfl (okWide_bool_mk hbool _))
  intro b sp hd
  rw [hs, hrt]
  exact trodAll_mk1 (shut_bool hbool true)
end
end Go.DL
set_option linter.unusedVariables false
set_option linter.unusedSimpArgs false
namespace Go.DL
open Go Go.ChangeShapes Go.RowKit Go.WideShapes
section
variable {T : Type} {enc : TypeId × Value → T} {P : Program} {W : World} {sp : Nat → Bool} {held : Bool}
theorem wf_i64 {n : Int} (hw : (Lit.int .i64 n).wf = true) : -9223372036854775808 ≤ n ∧ n ≤ 9223372036854775807 := by
  simp only [Lit.wf, Bool.and_eq_true, decide_eq_true_eq] at hw
  exact hw
theorem op_string {r : Reach} {b0 : Nat} {t : TypeId} {v : Value} {d : DataW T} {ps : List MemPlace} (ht : P.underlying t = some .string) (hval : Value.okWide P W r b0 t v) (hd : DataW.Trod enc P W 0 sp held t v d ps) :
    ∃ l : List UInt8, RdV (conc0 W) [] (dS (str l)) v ∧ d = .lit (.string l) := by
  obtain ⟨s, rfl, rfl, -, -⟩ := Go.ChangeMaps.open_string ht hval hd
  refine ⟨s.data.toList, ?_, rfl⟩
  have : str s.data.toList = s := by cases s; rfl
  rw [this]
  exact .lit _
theorem op_ints {r : Reach} {b0 : Nat} {t e : TypeId} {v : Value} {d : DataW T} {ps : List MemPlace} (ht : P.underlying t = some (.slice e)) (he : P.underlying e = some (.int .i64)) (hc : P.cellsOf e = 1) (hval : Value.okWide P W r b0 t v) (hd : DataW.Trod enc P W 0 sp held t v d ps) :
    ∃ l : List Int, RdV (conc0 W) [] (.sl (l.map dI)) v ∧ (∀ n ∈ l, -9223372036854775808 ≤ n ∧ n ≤ 9223372036854775807) ∧ (l = [] ∨ ∃ sp, d = .slice (l.map fun n => .lit (.int .i64 n)) sp) := by
  obtain ⟨a, len, cap, rfl⟩ := okWide_slice ht hval
  obtain ⟨l, h1, h2, h3⟩ := rd_ints ht he hc hd (by intro v' h; simpa [Value.cells] using h)
  exact ⟨l, h1, fun n hn => wf_i64 (h2 n hn), h3⟩
end
end Go.DL
set_option maxRecDepth 100000
set_option linter.unusedVariables false
namespace Go.Proofs.YtoehhfhjnjfgiaaDoor
open Go Go.DL Go.Proofs Go.Proofs.Tryd
open Go.ChangeShapes Go.WideShapes Go.ChangeAt Go.RowKit
theorem own : ownKnob Tryd.prog.godebug = none := by kernel_rfl
theorem laidOut : laidOutB Tryd.prog = true := by kernel_rfl
theorem readable3 : Tryd.prog.readableRec 3 = true ∧ 3 < Tryd.prog.types.size := ⟨by kernel_rfl, of_decide_eq_true (by kernel_rfl)⟩
theorem readable9 : Tryd.prog.readableRec 9 = true ∧ 9 < Tryd.prog.types.size := ⟨by kernel_rfl, of_decide_eq_true (by kernel_rfl)⟩
theorem readable22 : Tryd.prog.readableRec 22 = true ∧ 22 < Tryd.prog.types.size := ⟨by kernel_rfl, of_decide_eq_true (by kernel_rfl)⟩
theorem stand3 : Tryd.prog.wantsStandIn 3 = false := by kernel_rfl
theorem stand9 : Tryd.prog.wantsStandIn 9 = false := by kernel_rfl
theorem stand22 : Tryd.prog.wantsStandIn 22 = false := by kernel_rfl
theorem looksOn : true = Tryd.pinned.checked.prog.looks [] := by kernel_rfl
theorem bulk_one {H : Type} (d : DataW H) : 1 ≤ Rows.uptoBulk d := by
  cases d with
  | lit l => cases l <;> simp [Rows.uptoBulk]
  | _ => simp [Rows.uptoBulk]
theorem bulk_length {H : Type} (l : List (DataW H)) : l.length ≤ Rows.uptoBulkAll l := by
  induction l with
  | nil => simp
  | cons x r ih => have := bulk_one x; simp only [Rows.uptoBulkAll, List.length_cons]; omega
theorem bulk_part {H : Type} {d : DataW H} {l : List (DataW H)} (h : d ∈ l) : Rows.uptoBulk d ≤ Rows.uptoBulkAll l := by
  induction l with
  | nil => cases h
  | cons x r ih =>
    simp only [Rows.uptoBulkAll]
    cases h with
    | head => omega
    | tail _ h => have := ih h; omega
theorem bulk_ints {H : Type} {d : DataW H} {ds : List (DataW H)} {l : List Int} (hk : Rows.uptoSmall H ds = true) (hm : d ∈ ds) (h : l = [] ∨ ∃ sp, d = .slice (l.map fun n => .lit (.int .i64 n)) sp) : l.length ≤ 1048576 := by
  have h1 := of_decide_eq_true hk
  have h2 := bulk_part hm
  rcases h with rfl | ⟨sp, rfl⟩
  · simp
  · have h3 := bulk_length (l.map fun n => (.lit (.int .i64 n) : DataW H))
    simp only [Rows.uptoBulk, List.length_map] at h2 h3
    omega
theorem bulk_string {H : Type} {d : DataW H} {ds : List (DataW H)} {l : List UInt8} (hk : Rows.uptoSmall H ds = true) (hm : d ∈ ds) (h : d = .lit (.string l)) : l.length ≤ 1048576 := by
  have h1 := of_decide_eq_true hk
  have h2 := bulk_part hm
  subst h
  simp only [Rows.uptoBulk] at h2
  omega
theorem door_met (os : Os) (args : Array Value) : laidMetH Tryd.prog laidL ((World.doorLaid Tryd.prog 84 os).forCall (fun _ _ => 0) ⟨#[], args, []⟩).memory :=
  laidMetH_of_parts3 (fuel := 8) (laidMet_of_run' 8 (by kernel_rfl) (by kernel_rfl)) (by kernel_rfl) (by kernel_rfl)
end Go.Proofs.YtoehhfhjnjfgiaaDoor
set_option maxRecDepth 100000
set_option linter.unusedVariables false
namespace Go.Proofs.YtoehhfhjnjfgiaaDoor.claimRulesRound
open Go Go.DL Go.Proofs Go.Proofs.Tryd
open Go.ChangeShapes Go.WideShapes Go.ChangeAt Go.RowKit
theorem contract (H : Type) (enc : TypeId × Value → H) (W : World) (base : Nat) (args : Array Value) (ds gs : List (DataW H)) (before : List MemPlace)
    (hval : ∀ (j : Nat) t v, Tryd.f7.params[j]? = some t → args[j]? = some v → Value.okWide Tryd.prog W .any base t v)
    (hW : DataW.Whole enc Tryd.prog Tryd.f7.params.toList Rows.rulesRoundSpec.vars false W args.toList ds gs before) (hk : Rows.uptoSmall H (ds ++ gs) = true) (hL : laidMetH Tryd.prog laidL W) :
    Calls Tryd.prog 7 args W fun e W' => ∃ v, e = .returned v ∧ Rows.rulesRoundSpec.post enc Tryd.prog Tryd.f7 false true false false W args v W' := by
  have hW' := hW
  obtain ⟨p, q, hA0, hV, rfl, hfz, hnd⟩ := hW
  have hA : DataW.TrodAll enc Tryd.prog W 0 (fun _ => true) true Tryd.f7.params.toList args.toList ds p := hA0
  rw [Tryd.params7] at hA hval
  obtain ⟨v0, vs0, d0, ds0, p0, q0, hargs, rfl, rfl, h0, r0⟩ := trodAll_cons hA
  obtain ⟨v1, vs1, d1, ds1, p1, q1, rfl, rfl, rfl, h1, r1⟩ := trodAll_cons r0
  obtain ⟨v2, vs2, d2, ds2, p2, q2, rfl, rfl, rfl, h2, r2⟩ := trodAll_cons r1
  obtain ⟨rfl, rfl, rfl⟩ := trodAll_nil r2
  obtain rfl : args = #[v0, v1, v2] := by cases args; simp_all
  obtain ⟨rfl, rfl⟩ := trodVars_none hV
  obtain ⟨x0, k0, w0, e0⟩ := op_ints Tryd.underlying22 Tryd.underlying3 c3 (hval 0 22 v0 rfl rfl) h0
  have b0 := bulk_ints hk (by simp) e0
  obtain ⟨x1, k1, w1, e1⟩ := op_ints Tryd.underlying22 Tryd.underlying3 c3 (hval 1 22 v1 rfl rfl) h1
  have b1 := bulk_ints hk (by simp) e1
  obtain ⟨x2, k2, e2⟩ := op_string Tryd.underlying9 (hval 2 9 v2 rfl rfl) h2
  have b2 := bulk_string hk (by simp) e2
  refine law_post (cds := [.sl (ints x0), .sl (ints x1), dS (str x2)]) (rulesRound_spec env_glob x0 x1 x2 w0 (by omega) w1 (by omega) (by omega) rfl) (glob_rd hL) (tab_rd hL) rfl ?_ rfl laidOut ?_ hW' rfl (by kernel_rfl) Tryd.underlying4
  · intro i hi
    match i, hi with
    | 0, _ => exact k0
    | 1, _ => exact k1
    | 2, _ => exact k2
  · rw [Tryd.params7]
    intro t ht
    simp only [List.mem_cons, List.not_mem_nil, or_false] at ht
    rcases ht with rfl | rfl | rfl <;> first | exact readable3 | exact readable9 | exact readable22
theorem reads (os : Os) {H : Type} (enc : TypeId × Value → H) : ∃ places, DataW.whole enc Tryd.prog ((World.doorLaid Tryd.prog 84 os).forCall (fun _ _ => 0) ⟨#[], #[.slice none 0 0, .slice none 0 0, .string ⟨#[]⟩], []⟩).memory Tryd.f7.params.toList Rows.rulesRoundSpec.vars false #[Value.slice none 0 0, .slice none 0 0, .string ⟨#[]⟩].toList 8 =
    some ([.nil, .nil, .lit (.string [])], [], places) :=
  ⟨[], by kernel_rfl⟩
theorem lifted (os : Os) (started : os.Started) (H : Type) (enc : TypeId × Value → H) (F : Stop.Interp) :
    ReturnsInHanded {} Tryd.checked os 7 .any ((Rows.OpenSpec.upto Rows.rulesRoundSpec).preRow enc Tryd.prog Tryd.f7 Rows.rulesRoundUptoRow.domain false Rows.rulesRoundUptoRow.laid) (((Rows.OpenSpec.upto Rows.rulesRoundSpec).at F).post enc Tryd.prog Tryd.f7 false true false false) := by
  obtain ⟨places, hx⟩ := reads os enc
  refine returnsInHanded_of_row (C := Tryd.checked) (s := Rows.OpenSpec.upto Rows.rulesRoundSpec) own started (by kernel_rfl) Tryd.func7
    (witness_row_atRef (enc := enc) (C := Tryd.checked) false (World.doorLaid Tryd.prog 84 os) #[.slice none 0 0, .slice none 0 0, .string ⟨#[]⟩] rfl (by kernel_rfl) (by kernel_rfl) (by kernel_rfl)
      (OpenSpec.preRow_of_cond 8 hx (by kernel_rfl) (fun k hk => by cases hk; kernel_rfl) (by kernel_rfl) (door_met os _))) ?_
  intro W base args ds gs before hval hW _ hcond _ hL _ _
  exact contract H enc W base args ds gs before hval hW (hcond _ rfl) hL
theorem saidUpto : Rows.RulesRoundUptoSaid :=
  OpenClaim.holds_of_cond 7 Tryd.f7 rfl rfl rfl rfl rfl rfl rfl ⟨rfl, rfl, rfl, rfl, rfl⟩ rfl rfl rfl rfl rfl (by kernel_rfl) Tryd.func7 (by kernel_rfl)
    (of_decide_eq_true (by kernel_rfl)) (by unfold Func.isWrapper; first | (rw [if_pos (by decide +kernel)]; kernel_rfl) | (rw [if_neg (by decide +kernel)]; exact ⟨rfl, rfl⟩))
    (fun os started H enc _ F => by rw [OpenClaim.pre_eq_preRow]; exact lifted os started H enc F)
theorem plain (f : FuncId) (fn : Func) (hf : Tryd.pinned.checked.prog.funcNamed "splicery/splicerylaw36.RulesRound" = some f) (hfn : Tryd.pinned.checked.prog.funcs[f]? = some fn) :
    true = Tryd.pinned.checked.prog.looks [] ∧ ∀ (j : Nat) t, fn.params[j]? = some t → Tryd.pinned.checked.prog.wantsStandIn t = false := by
  obtain rfl : f = 7 := Option.some.inj ((show Tryd.prog.funcNamed "splicery/splicerylaw36.RulesRound" = some 7 by kernel_rfl).symm.trans hf) |>.symm
  obtain rfl : fn = Tryd.f7 := (Option.some.inj (Tryd.func7.symm.trans hfn)).symm
  refine ⟨looksOn, fun j t ht => ?_⟩
  rw [Tryd.params7] at ht
  have hm := Array.mem_of_getElem? ht
  simp only [List.mem_toArray, List.mem_cons, List.not_mem_nil, or_false] at hm
  rcases hm with rfl | rfl | rfl <;> first | exact stand3 | exact stand9 | exact stand22
theorem rulesRound_card : Rows.RulesRoundUptoCardSaid :=
  Claim7.holds_tied_plain_at .later [] _ _ _ _ saidUpto (fun _ h => by cases h) (by kernel_rfl) (fun _ h => by cases h) rulesRoundUpto_row_tie rfl ⟨rfl, rfl⟩ (by kernel_rfl) rfl plain (by kernel_rfl)
end Go.Proofs.YtoehhfhjnjfgiaaDoor.claimRulesRound
