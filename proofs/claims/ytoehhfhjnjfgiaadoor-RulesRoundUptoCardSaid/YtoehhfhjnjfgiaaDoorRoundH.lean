/- Part of a proof of the statement Round; what it needs in which order stands in GOCLAIM.json. -/
import Derived.Test.YtoehhfhjnjfgiaaDoorRoundG
set_option maxRecDepth 100000
set_option maxHeartbeats 2000000
set_option linter.unusedSimpArgs false
set_option linter.unusedVariables false
namespace Go.Proofs.Tryd
open Go Go.DL
variable {G : Nat → D} {H : List O} {Q : D → List O → Prop}
theorem whoOk_at {who : List Int} (h : whoOk who = true) {j : Nat} (hj : j < who.length) : 0 ≤ who.getD j 0 ∧ who.getD j 0 ≤ 7 ∧ (j ≠ 0 → who.getD (j - 1) 0 < who.getD j 0) := by
  unfold whoOk at h
  rw [List.all_eq_true] at h
  have := h j (List.mem_range.2 hj)
  simp only [whoAt, Bool.and_eq_true, decide_eq_true_eq, Bool.or_eq_true, beq_iff_eq] at this
  exact ⟨this.1.1, this.1.2, fun h0 => this.2.resolve_left h0⟩
theorem whoOk_ge {who : List Int} (h : whoOk who = true) : ∀ j, j < who.length → (j : Int) ≤ who.getD j 0
  | 0, hj => (whoOk_at h hj).1
  | j + 1, hj => by
    have h1 := whoOk_ge h j (by omega)
    have h2 := (whoOk_at h hj).2.2 (by omega)
    simp only [Nat.add_sub_cancel] at h2
    omega
theorem whoOk_len {who : List Int} (h : whoOk who = true) : who.length ≤ 8 := by
  rcases Nat.lt_or_ge 8 who.length with q | q
  · have h1 := whoOk_ge h 8 q
    have h2 := (whoOk_at h q).2.1
    omega
  · exact q
theorem isWord_len {s : List UInt8} (h : isWord kwL s = true) : s.length ≤ 16 ∧ s ≠ [] := by
  cases s with
  | nil => simp [isWord] at h
  | cons b r =>
    simp only [isWord, Bool.and_eq_true, beq_iff_eq] at h
    obtain ⟨⟨h1, h2⟩, _⟩ := h
    have h3 : tok (b :: r) = short (1 + (r.takeWhile isEither).length) := by simp [tok, h1]
    have h4 : short (1 + (r.takeWhile isEither).length) ≤ 16 := by unfold short; split <;> omega
    exact ⟨by rw [← h2, h3]; exact h4, by simp⟩
theorem whats_len {s : List UInt8} (h : whatsL.contains s = true) : s.length ≤ 6 ∧ s ≠ [] := by
  rw [List.contains_iff_mem] at h
  simp only [whatsL, List.mem_cons, List.not_mem_nil, or_false] at h
  rcases h with rfl | rfl | rfl | rfl | rfl | rfl | rfl <;> simp
structure Fine (r : Rule) : Prop where
  what : whatsL.contains (bl8 r.what) = true
  mod : bl8 r.mod = [] ∨ isWord kwL (bl8 r.mod) = true
  n1 : 1 ≤ r.n
  n2 : r.n ≤ (r.who.length : Int)
  who : whoOk r.who = true
theorem fine_of {r : Rule} (h : ruleOk r = true) : Fine r := by
  simp only [ruleOk, Bool.and_eq_true, Bool.or_eq_true, beq_iff_eq, decide_eq_true_eq] at h
  exact ⟨h.1.1.1.1, h.1.1.1.2, h.1.1.2, h.1.2, h.2⟩
theorem fine_ok {r : Rule} (h : Fine r) : ruleOk r = true := by
  simp only [ruleOk, Bool.and_eq_true, Bool.or_eq_true, beq_iff_eq, decide_eq_true_eq]
  exact ⟨⟨⟨⟨h.what, h.mod⟩, h.n1⟩, h.n2⟩, h.who⟩
theorem itoa_digit (n : Nat) (h : n < 10) : Lib.itoa (n : Int) = digitS (n : Int) := by
  have : n = 0 ∨ n = 1 ∨ n = 2 ∨ n = 3 ∨ n = 4 ∨ n = 5 ∨ n = 6 ∨ n = 7 ∨ n = 8 ∨ n = 9 := by omega
  rcases this with rfl | rfl | rfl | rfl | rfl | rfl | rfl | rfl | rfl | rfl <;> (unfold Lib.itoa; rw [if_neg (by omega)]; unfold Lib.decDigits; rfl)
theorem sadd {a b : List UInt8} (h : a.length + b.length ≤ 9223372036854775807) (K : D → Prop) : onBin .add (.lit (.string (str a))) (.lit (.string (str b))) K = K (.lit (.string (str (a ++ b)))) := by
  rw [bin_sadd _ _ _ (by rw [str_size, str_size]; exact h), str_app]
theorem itoa_dig {n : Int} (h0 : 0 ≤ n) (h1 : n ≤ 9) : Lib.itoa n = digitS n := by
  obtain ⟨m, rfl⟩ : ∃ m : Nat, n = m := ⟨n.toNat, by omega⟩
  exact itoa_digit m (by omega)
theorem digitS_len (n : Int) : (digitS n).length = 1 := rfl
def ruleHead (r : Rule) : List UInt8 := bl8 r.what ++ ((if bl8 r.mod = [] then [] else [32, 105, 110, 32] ++ bl8 r.mod) ++ ([58, 32] ++ (digitS r.n ++ [32, 111, 102])))
def whoTxt (who : List Int) (k : Nat) : List UInt8 := (List.range k).flatMap fun i => (if i = 0 then [32] else [44, 32]) ++ digitS (who.getD i 0)
theorem whoTxt_succ (who : List Int) (k : Nat) : whoTxt who (k + 1) = whoTxt who k ++ ((if k = 0 then [32] else [44, 32]) ++ digitS (who.getD k 0)) := by
  simp [whoTxt, List.range_succ]
theorem whoTxt_len (who : List Int) : ∀ k, (whoTxt who k).length ≤ 3 * k
  | 0 => by simp [whoTxt]
  | k + 1 => by
    have := whoTxt_len who k
    rw [whoTxt_succ, List.length_append, List.length_append, digitS_len]
    split <;> simp <;> omega
def ruleTxt (r : Rule) : List UInt8 := ruleHead r ++ (whoTxt r.who r.who.length ++ [10])
def rulesTxt (l : List Rule) : List UInt8 := l.flatMap ruleTxt
def printF (l : List Rule) : List UInt8 := if validF l then rulesTxt l else []
theorem ruleHead_len {r : Rule} (h : Fine r) : (ruleHead r).length ≤ 40 ∧ ruleHead r ≠ [] := by
  have h1 := whats_len h.what
  have h2 : (bl8 r.mod).length ≤ 16 := by
    rcases h.mod with q | q
    · rw [q]; simp
    · exact (isWord_len q).1
  constructor
  · unfold ruleHead
    split <;> simp only [List.length_append, List.length_cons, List.length_nil, digitS_len] <;> omega
  · unfold ruleHead
    intro q
    exact h1.2 (List.append_eq_nil_iff.1 q).1
theorem ruleTxt_len {r : Rule} (h : Fine r) : (ruleTxt r).length ≤ 70 := by
  have h1 := (ruleHead_len h).1
  have h2 := whoOk_len h.who
  have h3 := whoTxt_len r.who r.who.length
  simp only [ruleTxt, List.length_append, List.length_cons, List.length_nil]; omega
theorem rulesTxt_snoc (l : List Rule) (r : Rule) : rulesTxt (l ++ [r]) = rulesTxt l ++ ruleTxt r := by simp [rulesTxt]
theorem rulesTxt_len : ∀ {l : List Rule}, (∀ r ∈ l, Fine r) → (rulesTxt l).length ≤ 70 * l.length
  | [], _ => by simp [rulesTxt]
  | r :: l, h => by
    have h1 := ruleTxt_len (h r (by simp))
    have h2 := rulesTxt_len (l := l) fun q hq => h q (by simp [hq])
    simp only [rulesTxt, List.flatMap_cons, List.length_append, List.length_cons] at h2 ⊢; omega
theorem validF_fine {l : List Rule} (h : validF l = true) : (∀ r ∈ l, Fine r) ∧ l.length ≤ 64 := by
  simp only [validF, Bool.and_eq_true, List.all_eq_true, decide_eq_true_eq] at h
  exact ⟨fun r hr => fine_of (h.1 r hr), h.2⟩
end Go.Proofs.Tryd
set_option maxRecDepth 100000
set_option maxHeartbeats 2000000
set_option linter.unusedSimpArgs false
set_option linter.unusedVariables false
namespace Go.Proofs.Tryd
open Go Go.DL
variable {G : Nat → D} {H : List O} {Q : D → List O → Prop}
def pTxt (who : List Int) (i : Nat) : List UInt8 := if i = 0 then [32] else whoTxt who i
theorem pTxt_len (who : List Int) (i : Nat) : (pTxt who i).length ≤ 3 * i + 1 := by
  unfold pTxt; split
  · simp
  · have := whoTxt_len who i; omega
theorem BldAt.lt {K : List O} {t : List UInt8} (h : BldAt H K t) : H.length < K.length := by
  rcases h with ⟨_, Gs, rfl⟩ | ⟨_, Gs, j, ver, _, rfl⟩ <;> simp
theorem print_spec (hE : Env G) (l : List Rule) (hl : l.length ≤ 1099511627776) (hr : ∀ r ∈ l, ruleLen r) (hQ : Q (dS (str (printF l))) H) : CallA Tryd.prog G 21 [.sl (rulesD l)] H Q := by
  refine CallA.drop (s21 (Nat.le_of_ble_eq_true rfl) ?_)
  simp -dsimp -implicitDefEqProofs (maxSteps := 1000000) (disch := first | omega | (simp only [List.length_append, List.length_cons, List.length_nil]; omega) | (intros; simp only [ne_eq, reduceCtorEq, not_false_eq_true] <;> fail)) only [DL.R, Nat.reduceEqDiff, ↓reduceIte, reduceCtorEq, Int.reduceToNat, Int.reduceLE, Int.reduceLT, Nat.reduceLeDiff, Nat.reduceAdd, Nat.reduceMul, Int.reduceBNe, Int.reduceBEq, Int.cast_ofNat_Int, decide_true, decide_false, ne_eq, eq_self, implies_true, dc21_r0, dc21_r1, dc21_r2, dc21_r3, dc21_r4, dc21_r5, dc21_r6, dc21_r7, dc21_r8, dc21_r9, dc21_r10, dc21_r11, dc21_r12, dc21_r13, dc21_r14, dc21_r15, dc21_r16, dc21_r17, dc21_r18, dc21_r19, dc21_r20, dc21, DL.dI, DL.dB, DL.dS]
  refine valid_spec hE l hl hr ?_
  by_cases hv : validF l = true
  · obtain ⟨hfine, h64⟩ := validF_fine hv
    have hp : printF l = rulesTxt l := by unfold printF; rw [if_pos hv]
    rw [hp] at hQ
    have hlen : (rulesD l).length = l.length := rules_len l
    simp -dsimp -implicitDefEqProofs (maxSteps := 1000000) (disch := first | omega | (simp only [List.length_append, List.length_cons, List.length_nil]; omega) | (intros; simp only [ne_eq, reduceCtorEq, not_false_eq_true] <;> fail)) only [DL.R, Nat.reduceEqDiff, ↓reduceIte, reduceCtorEq, Int.reduceToNat, Int.reduceLE, Int.reduceLT, Nat.reduceLeDiff, Nat.reduceAdd, Nat.reduceMul, Int.reduceBNe, Int.reduceBEq, Int.cast_ofNat_Int, decide_true, decide_false, ne_eq, eq_self, implies_true, dc21_r0, dc21_r1, dc21_r2, dc21_r3, dc21_r4, dc21_r5, dc21_r6, dc21_r7, dc21_r8, dc21_r9, dc21_r10, dc21_r11, dc21_r12, dc21_r13, dc21_r14, dc21_r15, dc21_r16, dc21_r17, dc21_r18, dc21_r19, dc21_r20, dc21, DL.dI, DL.dB, DL.dS, hv]
    refine for_i 13 l.length (fun k s' K => BldAt H K (rulesTxt (l.take k)) ∧ s' 3 = .ptr H.length 0 ∧ s' 11 = .sl (rulesD l) ∧ s' 12 = dI l.length) ?_ ?_ ?_
    · simp -dsimp -implicitDefEqProofs (maxSteps := 1000000) (disch := first | omega | (simp only [List.length_append, List.length_cons, List.length_nil]; omega) | (intros; simp only [ne_eq, reduceCtorEq, not_false_eq_true] <;> fail)) only [DL.R, Nat.reduceEqDiff, ↓reduceIte, reduceCtorEq, Int.reduceToNat, Int.reduceLE, Int.reduceLT, Nat.reduceLeDiff, Nat.reduceAdd, Nat.reduceMul, Int.reduceBNe, Int.reduceBEq, Int.cast_ofNat_Int, decide_true, decide_false, ne_eq, eq_self, implies_true, DL.dI, DL.dB, DL.dS]
    · simp -dsimp -implicitDefEqProofs (maxSteps := 1000000) (disch := first | omega | (simp only [List.length_append, List.length_cons, List.length_nil]; omega) | (intros; simp only [ne_eq, reduceCtorEq, not_false_eq_true] <;> fail)) only [DL.R, Nat.reduceEqDiff, ↓reduceIte, reduceCtorEq, Int.reduceToNat, Int.reduceLE, Int.reduceLT, Nat.reduceLeDiff, Nat.reduceAdd, Nat.reduceMul, Int.reduceBNe, Int.reduceBEq, Int.cast_ofNat_Int, decide_true, decide_false, ne_eq, eq_self, implies_true, DL.dI, DL.dB, DL.dS, hlen]
      exact .inl ⟨rfl, [], rfl⟩
    · rintro k s' K hk ht ⟨hB, h3, h11, h12⟩
      have h11' : s' 11 = .sl (l.map ruleD) := h11
      by_cases c : k < l.length
      · have c1 : decide ((k : Int) < (l.length : Int)) = true := decide_eq_true (by omega)
        obtain ⟨q, hq⟩ : ∃ q, l[k] = q := ⟨_, rfl⟩
        have hf := hfine _ (List.getElem_mem c)
        rw [hq] at hf
        have htk : l.take (k + 1) = l.take k ++ [q] := by rw [List.take_succ_eq_append_getElem c, hq]
        have htl := rulesTxt_len (l := l.take k) fun r hr' => hfine r (List.mem_of_mem_take hr')
        rw [List.length_take] at htl
        obtain ⟨T, hT⟩ : ∃ T, rulesTxt (l.take k) = T := ⟨_, rfl⟩
        rw [hT] at hB htl
        have hhead := ruleHead_len hf
        have hwl := whats_len hf.what
        have hn9 := whoOk_len hf.who
        have hml : (bl8 q.mod).length ≤ 16 := by
          rcases hf.mod with z | z
          · rw [z]; simp
          · exact (isWord_len z).1
        have hn1 := hf.n1
        have hn2 := hf.n2
        have hhd : ruleHead q = bl8 q.what ++ ((if bl8 q.mod = [] then [] else [32, 105, 110, 32] ++ bl8 q.mod) ++ ([58, 32] ++ (digitS q.n ++ [32, 111, 102]))) := rfl
        have hatw : ∀ i, i < q.who.length → 0 ≤ q.who.getD i 0 ∧ q.who.getD i 0 ≤ 7 := fun i hi => ⟨(whoOk_at hf.who hi).1, (whoOk_at hf.who hi).2.1⟩
        have htx : ruleTxt q = ruleHead q ++ (whoTxt q.who q.who.length ++ [10]) := rfl
        obtain ⟨qw, qm, qn, qwho⟩ := q
        simp only at hwl hn9 hml hn1 hn2 hhd hatw htx
        obtain ⟨wl, hwl'⟩ : ∃ wl, bl8 qw = wl := ⟨_, rfl⟩
        obtain ⟨ml, hml'⟩ : ∃ ml, bl8 qm = ml := ⟨_, rfl⟩
        have ew : qw = str wl := by rw [← hwl', str_bl8]
        have em : qm = str ml := by rw [← hml', str_bl8]
        subst ew em
        rw [bl8_str] at hwl hml
        rw [bl8_str, bl8_str] at hhd
        have hints : ints qwho = qwho.map dI := rfl
        have hil : (ints qwho).length = qwho.length := by simp [ints]
        obtain ⟨HD, hHD⟩ : ∃ HD, ruleHead ⟨str wl, str ml, qn, qwho⟩ = HD := ⟨_, rfl⟩
        rw [hHD] at hhd hhead htx
        have hdig : Lib.itoa qn = digitS qn := itoa_dig (by omega) (by omega)
        have hKl := hB.lt
        have hKne : K.length ≠ H.length := by omega
        have hd1 : (digitS qn).length = 1 := rfl
        simp -dsimp -implicitDefEqProofs (maxSteps := 1000000) (disch := first | omega | (simp only [List.length_append, List.length_cons, List.length_nil]; omega) | (intros; simp only [ne_eq, reduceCtorEq, not_false_eq_true] <;> fail)) only [DL.R, Nat.reduceEqDiff, ↓reduceIte, reduceCtorEq, Int.reduceToNat, Int.reduceLE, Int.reduceLT, Nat.reduceLeDiff, Nat.reduceAdd, Nat.reduceMul, Int.reduceBNe, Int.reduceBEq, Int.cast_ofNat_Int, decide_true, decide_false, ne_eq, eq_self, implies_true, dc21_r0, dc21_r1, dc21_r2, dc21_r3, dc21_r4, dc21_r5, dc21_r6, dc21_r7, dc21_r8, dc21_r9, dc21_r10, dc21_r11, dc21_r12, dc21_r13, dc21_r14, dc21_r15, dc21_r16, dc21_r17, dc21_r18, dc21_r19, dc21_r20, dc21, DL.dI, DL.dB, DL.dS, h3, h11', h12, ht, c1, hq, ruleD, ruleL, DL.wrap_id]
        refine ws_spec (s := wl) (hB.push _) (by intro z; exact hwl.2 (List.append_eq_nil_iff.1 z).2) (by omega) fun K1 hB1 hl1 hf1 => ?_
        have hb1 : K1[K.length]? = some (.box 42 [dS (str wl), dS (str ml), dI qn, .sl (ints qwho)]) := hf1 _ _ _ hKne (by rw [get_own0]; rfl)
        by_cases hm0 : ml = []
        · have m0 : (ml == []) = true := by simp [hm0]
          rw [if_pos hm0] at hhd
          simp -dsimp -implicitDefEqProofs (maxSteps := 1000000) (disch := first | omega | (simp only [List.length_append, List.length_cons, List.length_nil]; omega) | (intros; simp only [ne_eq, reduceCtorEq, not_false_eq_true] <;> fail)) only [DL.R, Nat.reduceEqDiff, ↓reduceIte, reduceCtorEq, Int.reduceToNat, Int.reduceLE, Int.reduceLT, Nat.reduceLeDiff, Nat.reduceAdd, Nat.reduceMul, Int.reduceBNe, Int.reduceBEq, Int.cast_ofNat_Int, decide_true, decide_false, ne_eq, eq_self, implies_true, dc21_r0, dc21_r1, dc21_r2, dc21_r3, dc21_r4, dc21_r5, dc21_r6, dc21_r7, dc21_r8, dc21_r9, dc21_r10, dc21_r11, dc21_r12, dc21_r13, dc21_r14, dc21_r15, dc21_r16, dc21_r17, dc21_r18, dc21_r19, dc21_r20, dc21, DL.dI, DL.dB, DL.dS, h3, h11', h12, ht, hb1, m0, DL.wrap_id]
          refine itoa_call qn (by omega) (by omega) ?_
          rw [hdig]
          simp -dsimp -implicitDefEqProofs (maxSteps := 1000000) (disch := first | omega | (simp only [List.length_append, List.length_cons, List.length_nil]; omega) | (intros; simp only [ne_eq, reduceCtorEq, not_false_eq_true] <;> fail)) only [DL.R, Nat.reduceEqDiff, ↓reduceIte, reduceCtorEq, Int.reduceToNat, Int.reduceLE, Int.reduceLT, Nat.reduceLeDiff, Nat.reduceAdd, Nat.reduceMul, Int.reduceBNe, Int.reduceBEq, Int.cast_ofNat_Int, decide_true, decide_false, ne_eq, eq_self, implies_true, dc21_r0, dc21_r1, dc21_r2, dc21_r3, dc21_r4, dc21_r5, dc21_r6, dc21_r7, dc21_r8, dc21_r9, dc21_r10, dc21_r11, dc21_r12, dc21_r13, dc21_r14, dc21_r15, dc21_r16, dc21_r17, dc21_r18, dc21_r19, dc21_r20, dc21, DL.dI, DL.dB, DL.dS, h3, h11', h12, ht, hb1, sadd, hd1, DL.wrap_id]
          refine ws_spec (s := [58, 32] ++ (digitS qn ++ [32, 111, 102, 32])) hB1 (by simp) (by simp [hd1]; omega) fun K2 hB2 hl2 hf2 => ?_
          have hb2 := hf2 _ _ _ hKne hb1
          have hB2' : BldAt H K2 (T ++ (HD ++ pTxt qwho 0)) := by rw [hhd]; simpa [pTxt] using hB2
          simp -dsimp -implicitDefEqProofs (maxSteps := 1000000) (disch := first | omega | (simp only [List.length_append, List.length_cons, List.length_nil]; omega) | (intros; simp only [ne_eq, reduceCtorEq, not_false_eq_true] <;> fail)) only [DL.R, Nat.reduceEqDiff, ↓reduceIte, reduceCtorEq, Int.reduceToNat, Int.reduceLE, Int.reduceLT, Nat.reduceLeDiff, Nat.reduceAdd, Nat.reduceMul, Int.reduceBNe, Int.reduceBEq, Int.cast_ofNat_Int, decide_true, decide_false, ne_eq, eq_self, implies_true, dc21_r0, dc21_r1, dc21_r2, dc21_r3, dc21_r4, dc21_r5, dc21_r6, dc21_r7, dc21_r8, dc21_r9, dc21_r10, dc21_r11, dc21_r12, dc21_r13, dc21_r14, dc21_r15, dc21_r16, dc21_r17, dc21_r18, dc21_r19, dc21_r20, dc21, DL.dI, DL.dB, DL.dS, h3, h11', h12, ht, hb2, hil, DL.wrap_id]
          refine for_i 36 qwho.length (fun i s'' K' => BldAt H K' (T ++ (HD ++ pTxt qwho i)) ∧ s'' 3 = .ptr H.length 0 ∧ s'' 11 = .sl (rulesD l) ∧ s'' 12 = dI l.length ∧ s'' 13 = dI k ∧ s'' 34 = .sl (ints qwho) ∧ s'' 35 = dI qwho.length) ?_ ?_ ?_
          · simp -dsimp -implicitDefEqProofs (maxSteps := 1000000) (disch := first | omega | (simp only [List.length_append, List.length_cons, List.length_nil]; omega) | (intros; simp only [ne_eq, reduceCtorEq, not_false_eq_true] <;> fail)) only [DL.R, Nat.reduceEqDiff, ↓reduceIte, reduceCtorEq, Int.reduceToNat, Int.reduceLE, Int.reduceLT, Nat.reduceLeDiff, Nat.reduceAdd, Nat.reduceMul, Int.reduceBNe, Int.reduceBEq, Int.cast_ofNat_Int, decide_true, decide_false, ne_eq, eq_self, implies_true, DL.dI, DL.dB, DL.dS]
          · simp -dsimp -implicitDefEqProofs (maxSteps := 1000000) (disch := first | omega | (simp only [List.length_append, List.length_cons, List.length_nil]; omega) | (intros; simp only [ne_eq, reduceCtorEq, not_false_eq_true] <;> fail)) only [DL.R, Nat.reduceEqDiff, ↓reduceIte, reduceCtorEq, Int.reduceToNat, Int.reduceLE, Int.reduceLT, Nat.reduceLeDiff, Nat.reduceAdd, Nat.reduceMul, Int.reduceBNe, Int.reduceBEq, Int.cast_ofNat_Int, decide_true, decide_false, ne_eq, eq_self, implies_true, DL.dI, DL.dB, DL.dS, h3, h11, h12, ht]
            exact hB2'
          · rintro i s'' K' hi gt ⟨gB, g3, g11, g12, g13, g34, g35⟩
            have g34' : s'' 34 = .sl (qwho.map dI) := g34
            have hwt := whoTxt_len qwho i
            have hpt := pTxt_len qwho i
            have hts : whoTxt qwho (i + 1) = whoTxt qwho i ++ ((if i = 0 then [32] else [44, 32]) ++ digitS (qwho.getD i 0)) := whoTxt_succ _ _
            have hpn : pTxt qwho (i + 1) = whoTxt qwho (i + 1) := by unfold pTxt; rw [if_neg (by omega)]
            by_cases e : i < qwho.length
            · have f1 : decide ((i : Int) < (qwho.length : Int)) = true := decide_eq_true (by omega)
              obtain ⟨x, hx⟩ : ∃ x, qwho[i] = x := ⟨_, rfl⟩
              have hgd : qwho.getD i 0 = x := by rw [List.getD_eq_getElem?_getD, List.getElem?_eq_getElem e, Option.getD_some, hx]
              have hxb := hatw i e
              rw [hgd] at hts hxb
              have hdx : (digitS x).length = 1 := rfl
              have hdigx : Lib.itoa x = digitS x := itoa_dig (by omega) (by omega)
              by_cases i0 : i = 0
              · have j0 : decide ((i : Int) > 0) = false := decide_eq_false (by omega)
                rw [if_pos i0] at hts
                simp -dsimp -implicitDefEqProofs (maxSteps := 1000000) (disch := first | omega | (simp only [List.length_append, List.length_cons, List.length_nil]; omega) | (intros; simp only [ne_eq, reduceCtorEq, not_false_eq_true] <;> fail)) only [DL.R, Nat.reduceEqDiff, ↓reduceIte, reduceCtorEq, Int.reduceToNat, Int.reduceLE, Int.reduceLT, Nat.reduceLeDiff, Nat.reduceAdd, Nat.reduceMul, Int.reduceBNe, Int.reduceBEq, Int.cast_ofNat_Int, decide_true, decide_false, ne_eq, eq_self, implies_true, dc21_r0, dc21_r1, dc21_r2, dc21_r3, dc21_r4, dc21_r5, dc21_r6, dc21_r7, dc21_r8, dc21_r9, dc21_r10, dc21_r11, dc21_r12, dc21_r13, dc21_r14, dc21_r15, dc21_r16, dc21_r17, dc21_r18, dc21_r19, dc21_r20, dc21, DL.dI, DL.dB, DL.dS, g3, g11, g12, g13, g34', g35, gt, f1, hx, j0, DL.wrap_id]
                refine itoa_call x (by omega) (by omega) ?_
                rw [hdigx]
                simp -dsimp -implicitDefEqProofs (maxSteps := 1000000) (disch := first | omega | (simp only [List.length_append, List.length_cons, List.length_nil]; omega) | (intros; simp only [ne_eq, reduceCtorEq, not_false_eq_true] <;> fail)) only [DL.R, Nat.reduceEqDiff, ↓reduceIte, reduceCtorEq, Int.reduceToNat, Int.reduceLE, Int.reduceLT, Nat.reduceLeDiff, Nat.reduceAdd, Nat.reduceMul, Int.reduceBNe, Int.reduceBEq, Int.cast_ofNat_Int, decide_true, decide_false, ne_eq, eq_self, implies_true, dc21_r0, dc21_r1, dc21_r2, dc21_r3, dc21_r4, dc21_r5, dc21_r6, dc21_r7, dc21_r8, dc21_r9, dc21_r10, dc21_r11, dc21_r12, dc21_r13, dc21_r14, dc21_r15, dc21_r16, dc21_r17, dc21_r18, dc21_r19, dc21_r20, dc21, DL.dI, DL.dB, DL.dS, g3, g11, g12, g13, g34', g35, gt, DL.wrap_id]
                refine ws_spec (s := digitS x) gB (by simp [digitS]) (by simp [hdx]; omega) fun K3 hB3 hl3 hf3 => ?_
                have hB3' : BldAt H K3 (T ++ (HD ++ pTxt qwho (i + 1))) := by
                  rw [hpn, hts]; subst i0; simpa [pTxt, whoTxt] using hB3
                simp -dsimp -implicitDefEqProofs (maxSteps := 1000000) (disch := first | omega | (simp only [List.length_append, List.length_cons, List.length_nil]; omega) | (intros; simp only [ne_eq, reduceCtorEq, not_false_eq_true] <;> fail)) only [DL.R, Nat.reduceEqDiff, ↓reduceIte, reduceCtorEq, Int.reduceToNat, Int.reduceLE, Int.reduceLT, Nat.reduceLeDiff, Nat.reduceAdd, Nat.reduceMul, Int.reduceBNe, Int.reduceBEq, Int.cast_ofNat_Int, decide_true, decide_false, ne_eq, eq_self, implies_true, dc21_r0, dc21_r1, dc21_r2, dc21_r3, dc21_r4, dc21_r5, dc21_r6, dc21_r7, dc21_r8, dc21_r9, dc21_r10, dc21_r11, dc21_r12, dc21_r13, dc21_r14, dc21_r15, dc21_r16, dc21_r17, dc21_r18, dc21_r19, dc21_r20, dc21, DL.dI, DL.dB, DL.dS, g3, g11, g12, g13, g34', g35, gt, DL.wrap_id]
                exact ⟨e, hB3', rfl⟩
              · have j0 : decide ((i : Int) > 0) = true := decide_eq_true (by omega)
                rw [if_neg i0] at hts
                simp -dsimp -implicitDefEqProofs (maxSteps := 1000000) (disch := first | omega | (simp only [List.length_append, List.length_cons, List.length_nil]; omega) | (intros; simp only [ne_eq, reduceCtorEq, not_false_eq_true] <;> fail)) only [DL.R, Nat.reduceEqDiff, ↓reduceIte, reduceCtorEq, Int.reduceToNat, Int.reduceLE, Int.reduceLT, Nat.reduceLeDiff, Nat.reduceAdd, Nat.reduceMul, Int.reduceBNe, Int.reduceBEq, Int.cast_ofNat_Int, decide_true, decide_false, ne_eq, eq_self, implies_true, dc21_r0, dc21_r1, dc21_r2, dc21_r3, dc21_r4, dc21_r5, dc21_r6, dc21_r7, dc21_r8, dc21_r9, dc21_r10, dc21_r11, dc21_r12, dc21_r13, dc21_r14, dc21_r15, dc21_r16, dc21_r17, dc21_r18, dc21_r19, dc21_r20, dc21, DL.dI, DL.dB, DL.dS, g3, g11, g12, g13, g34', g35, gt, f1, hx, j0, DL.wrap_id]
                refine ws_spec (s := [44, 32]) gB (by simp) (by simp; omega) fun K3 hB3 hl3 hf3 => ?_
                simp -dsimp -implicitDefEqProofs (maxSteps := 1000000) (disch := first | omega | (simp only [List.length_append, List.length_cons, List.length_nil]; omega) | (intros; simp only [ne_eq, reduceCtorEq, not_false_eq_true] <;> fail)) only [DL.R, Nat.reduceEqDiff, ↓reduceIte, reduceCtorEq, Int.reduceToNat, Int.reduceLE, Int.reduceLT, Nat.reduceLeDiff, Nat.reduceAdd, Nat.reduceMul, Int.reduceBNe, Int.reduceBEq, Int.cast_ofNat_Int, decide_true, decide_false, ne_eq, eq_self, implies_true, dc21_r0, dc21_r1, dc21_r2, dc21_r3, dc21_r4, dc21_r5, dc21_r6, dc21_r7, dc21_r8, dc21_r9, dc21_r10, dc21_r11, dc21_r12, dc21_r13, dc21_r14, dc21_r15, dc21_r16, dc21_r17, dc21_r18, dc21_r19, dc21_r20, dc21, DL.dI, DL.dB, DL.dS, g3, g11, g12, g13, g34', g35, gt, DL.wrap_id]
                refine itoa_call x (by omega) (by omega) ?_
                rw [hdigx]
                simp -dsimp -implicitDefEqProofs (maxSteps := 1000000) (disch := first | omega | (simp only [List.length_append, List.length_cons, List.length_nil]; omega) | (intros; simp only [ne_eq, reduceCtorEq, not_false_eq_true] <;> fail)) only [DL.R, Nat.reduceEqDiff, ↓reduceIte, reduceCtorEq, Int.reduceToNat, Int.reduceLE, Int.reduceLT, Nat.reduceLeDiff, Nat.reduceAdd, Nat.reduceMul, Int.reduceBNe, Int.reduceBEq, Int.cast_ofNat_Int, decide_true, decide_false, ne_eq, eq_self, implies_true, dc21_r0, dc21_r1, dc21_r2, dc21_r3, dc21_r4, dc21_r5, dc21_r6, dc21_r7, dc21_r8, dc21_r9, dc21_r10, dc21_r11, dc21_r12, dc21_r13, dc21_r14, dc21_r15, dc21_r16, dc21_r17, dc21_r18, dc21_r19, dc21_r20, dc21, DL.dI, DL.dB, DL.dS, g3, g11, g12, g13, g34', g35, gt, DL.wrap_id]
                refine ws_spec (s := digitS x) hB3 (by simp [digitS]) (by simp [hdx]; omega) fun K4 hB4 hl4 hf4 => ?_
                have hB4' : BldAt H K4 (T ++ (HD ++ pTxt qwho (i + 1))) := by
                  rw [hpn, hts]
                  have hpi : pTxt qwho i = whoTxt qwho i := by unfold pTxt; rw [if_neg i0]
                  rw [hpi] at hB4
                  simpa using hB4
                simp -dsimp -implicitDefEqProofs (maxSteps := 1000000) (disch := first | omega | (simp only [List.length_append, List.length_cons, List.length_nil]; omega) | (intros; simp only [ne_eq, reduceCtorEq, not_false_eq_true] <;> fail)) only [DL.R, Nat.reduceEqDiff, ↓reduceIte, reduceCtorEq, Int.reduceToNat, Int.reduceLE, Int.reduceLT, Nat.reduceLeDiff, Nat.reduceAdd, Nat.reduceMul, Int.reduceBNe, Int.reduceBEq, Int.cast_ofNat_Int, decide_true, decide_false, ne_eq, eq_self, implies_true, dc21_r0, dc21_r1, dc21_r2, dc21_r3, dc21_r4, dc21_r5, dc21_r6, dc21_r7, dc21_r8, dc21_r9, dc21_r10, dc21_r11, dc21_r12, dc21_r13, dc21_r14, dc21_r15, dc21_r16, dc21_r17, dc21_r18, dc21_r19, dc21_r20, dc21, DL.dI, DL.dB, DL.dS, g3, g11, g12, g13, g34', g35, gt, DL.wrap_id]
                exact ⟨e, hB4', rfl⟩
            · have f1 : decide ((i : Int) < (qwho.length : Int)) = false := decide_eq_false (by omega)
              have hie : i = qwho.length := by omega
              have hpi : pTxt qwho i = whoTxt qwho qwho.length := by rw [hie]; unfold pTxt; rw [if_neg (by omega)]
              rw [hpi] at gB
              have hwt2 := whoTxt_len qwho qwho.length
              simp -dsimp -implicitDefEqProofs (maxSteps := 1000000) (disch := first | omega | (simp only [List.length_append, List.length_cons, List.length_nil]; omega) | (intros; simp only [ne_eq, reduceCtorEq, not_false_eq_true] <;> fail)) only [DL.R, Nat.reduceEqDiff, ↓reduceIte, reduceCtorEq, Int.reduceToNat, Int.reduceLE, Int.reduceLT, Nat.reduceLeDiff, Nat.reduceAdd, Nat.reduceMul, Int.reduceBNe, Int.reduceBEq, Int.cast_ofNat_Int, decide_true, decide_false, ne_eq, eq_self, implies_true, dc21_r0, dc21_r1, dc21_r2, dc21_r3, dc21_r4, dc21_r5, dc21_r6, dc21_r7, dc21_r8, dc21_r9, dc21_r10, dc21_r11, dc21_r12, dc21_r13, dc21_r14, dc21_r15, dc21_r16, dc21_r17, dc21_r18, dc21_r19, dc21_r20, dc21, DL.dI, DL.dB, DL.dS, g3, g11, g12, g13, g34, g35, gt, f1, DL.wrap_id]
              refine ws_spec (s := [10]) gB (by simp) (by simp; omega) fun K3 hB3 hl3 hf3 => ?_
              have hB3' : BldAt H K3 (rulesTxt (l.take (k + 1))) := by
                rw [htk, rulesTxt_snoc, hT, htx]; simpa using hB3
              simp -dsimp -implicitDefEqProofs (maxSteps := 1000000) (disch := first | omega | (simp only [List.length_append, List.length_cons, List.length_nil]; omega) | (intros; simp only [ne_eq, reduceCtorEq, not_false_eq_true] <;> fail)) only [DL.R, Nat.reduceEqDiff, ↓reduceIte, reduceCtorEq, Int.reduceToNat, Int.reduceLE, Int.reduceLT, Nat.reduceLeDiff, Nat.reduceAdd, Nat.reduceMul, Int.reduceBNe, Int.reduceBEq, Int.cast_ofNat_Int, decide_true, decide_false, ne_eq, eq_self, implies_true, dc21_r0, dc21_r1, dc21_r2, dc21_r3, dc21_r4, dc21_r5, dc21_r6, dc21_r7, dc21_r8, dc21_r9, dc21_r10, dc21_r11, dc21_r12, dc21_r13, dc21_r14, dc21_r15, dc21_r16, dc21_r17, dc21_r18, dc21_r19, dc21_r20, dc21, DL.dI, DL.dB, DL.dS, g3, g11, g12, g13, g34, g35, gt, DL.wrap_id]
              exact ⟨c, hB3'⟩
        · have m0 : (ml == []) = false := by simp [hm0]
          rw [if_neg hm0] at hhd
          simp -dsimp -implicitDefEqProofs (maxSteps := 1000000) (disch := first | omega | (simp only [List.length_append, List.length_cons, List.length_nil]; omega) | (intros; simp only [ne_eq, reduceCtorEq, not_false_eq_true] <;> fail)) only [DL.R, Nat.reduceEqDiff, ↓reduceIte, reduceCtorEq, Int.reduceToNat, Int.reduceLE, Int.reduceLT, Nat.reduceLeDiff, Nat.reduceAdd, Nat.reduceMul, Int.reduceBNe, Int.reduceBEq, Int.cast_ofNat_Int, decide_true, decide_false, ne_eq, eq_self, implies_true, dc21_r0, dc21_r1, dc21_r2, dc21_r3, dc21_r4, dc21_r5, dc21_r6, dc21_r7, dc21_r8, dc21_r9, dc21_r10, dc21_r11, dc21_r12, dc21_r13, dc21_r14, dc21_r15, dc21_r16, dc21_r17, dc21_r18, dc21_r19, dc21_r20, dc21, DL.dI, DL.dB, DL.dS, h3, h11', h12, ht, hb1, m0, sadd, DL.wrap_id]
          refine ws_spec (s := [32, 105, 110, 32] ++ ml) hB1 (by simp) (by simp; omega) fun K1b hB1b hl1b hf1b => ?_
          have hb1b := hf1b _ _ _ hKne hb1
          simp -dsimp -implicitDefEqProofs (maxSteps := 1000000) (disch := first | omega | (simp only [List.length_append, List.length_cons, List.length_nil]; omega) | (intros; simp only [ne_eq, reduceCtorEq, not_false_eq_true] <;> fail)) only [DL.R, Nat.reduceEqDiff, ↓reduceIte, reduceCtorEq, Int.reduceToNat, Int.reduceLE, Int.reduceLT, Nat.reduceLeDiff, Nat.reduceAdd, Nat.reduceMul, Int.reduceBNe, Int.reduceBEq, Int.cast_ofNat_Int, decide_true, decide_false, ne_eq, eq_self, implies_true, dc21_r0, dc21_r1, dc21_r2, dc21_r3, dc21_r4, dc21_r5, dc21_r6, dc21_r7, dc21_r8, dc21_r9, dc21_r10, dc21_r11, dc21_r12, dc21_r13, dc21_r14, dc21_r15, dc21_r16, dc21_r17, dc21_r18, dc21_r19, dc21_r20, dc21, DL.dI, DL.dB, DL.dS, h3, h11', h12, ht, hb1b, m0, DL.wrap_id]
          refine itoa_call qn (by omega) (by omega) ?_
          rw [hdig]
          simp -dsimp -implicitDefEqProofs (maxSteps := 1000000) (disch := first | omega | (simp only [List.length_append, List.length_cons, List.length_nil]; omega) | (intros; simp only [ne_eq, reduceCtorEq, not_false_eq_true] <;> fail)) only [DL.R, Nat.reduceEqDiff, ↓reduceIte, reduceCtorEq, Int.reduceToNat, Int.reduceLE, Int.reduceLT, Nat.reduceLeDiff, Nat.reduceAdd, Nat.reduceMul, Int.reduceBNe, Int.reduceBEq, Int.cast_ofNat_Int, decide_true, decide_false, ne_eq, eq_self, implies_true, dc21_r0, dc21_r1, dc21_r2, dc21_r3, dc21_r4, dc21_r5, dc21_r6, dc21_r7, dc21_r8, dc21_r9, dc21_r10, dc21_r11, dc21_r12, dc21_r13, dc21_r14, dc21_r15, dc21_r16, dc21_r17, dc21_r18, dc21_r19, dc21_r20, dc21, DL.dI, DL.dB, DL.dS, h3, h11', h12, ht, hb1b, sadd, hd1, DL.wrap_id]
          refine ws_spec (s := [58, 32] ++ (digitS qn ++ [32, 111, 102, 32])) hB1b (by simp) (by simp [hd1]; omega) fun K2 hB2 hl2 hf2 => ?_
          have hb2 := hf2 _ _ _ hKne hb1b
          have hB2' : BldAt H K2 (T ++ (HD ++ pTxt qwho 0)) := by rw [hhd]; simpa [pTxt] using hB2
          simp -dsimp -implicitDefEqProofs (maxSteps := 1000000) (disch := first | omega | (simp only [List.length_append, List.length_cons, List.length_nil]; omega) | (intros; simp only [ne_eq, reduceCtorEq, not_false_eq_true] <;> fail)) only [DL.R, Nat.reduceEqDiff, ↓reduceIte, reduceCtorEq, Int.reduceToNat, Int.reduceLE, Int.reduceLT, Nat.reduceLeDiff, Nat.reduceAdd, Nat.reduceMul, Int.reduceBNe, Int.reduceBEq, Int.cast_ofNat_Int, decide_true, decide_false, ne_eq, eq_self, implies_true, dc21_r0, dc21_r1, dc21_r2, dc21_r3, dc21_r4, dc21_r5, dc21_r6, dc21_r7, dc21_r8, dc21_r9, dc21_r10, dc21_r11, dc21_r12, dc21_r13, dc21_r14, dc21_r15, dc21_r16, dc21_r17, dc21_r18, dc21_r19, dc21_r20, dc21, DL.dI, DL.dB, DL.dS, h3, h11', h12, ht, hb2, hil, DL.wrap_id]
          refine for_i 36 qwho.length (fun i s'' K' => BldAt H K' (T ++ (HD ++ pTxt qwho i)) ∧ s'' 3 = .ptr H.length 0 ∧ s'' 11 = .sl (rulesD l) ∧ s'' 12 = dI l.length ∧ s'' 13 = dI k ∧ s'' 34 = .sl (ints qwho) ∧ s'' 35 = dI qwho.length) ?_ ?_ ?_
          · simp -dsimp -implicitDefEqProofs (maxSteps := 1000000) (disch := first | omega | (simp only [List.length_append, List.length_cons, List.length_nil]; omega) | (intros; simp only [ne_eq, reduceCtorEq, not_false_eq_true] <;> fail)) only [DL.R, Nat.reduceEqDiff, ↓reduceIte, reduceCtorEq, Int.reduceToNat, Int.reduceLE, Int.reduceLT, Nat.reduceLeDiff, Nat.reduceAdd, Nat.reduceMul, Int.reduceBNe, Int.reduceBEq, Int.cast_ofNat_Int, decide_true, decide_false, ne_eq, eq_self, implies_true, DL.dI, DL.dB, DL.dS]
          · simp -dsimp -implicitDefEqProofs (maxSteps := 1000000) (disch := first | omega | (simp only [List.length_append, List.length_cons, List.length_nil]; omega) | (intros; simp only [ne_eq, reduceCtorEq, not_false_eq_true] <;> fail)) only [DL.R, Nat.reduceEqDiff, ↓reduceIte, reduceCtorEq, Int.reduceToNat, Int.reduceLE, Int.reduceLT, Nat.reduceLeDiff, Nat.reduceAdd, Nat.reduceMul, Int.reduceBNe, Int.reduceBEq, Int.cast_ofNat_Int, decide_true, decide_false, ne_eq, eq_self, implies_true, DL.dI, DL.dB, DL.dS, h3, h11, h12, ht]
            exact hB2'
          · rintro i s'' K' hi gt ⟨gB, g3, g11, g12, g13, g34, g35⟩
            have g34' : s'' 34 = .sl (qwho.map dI) := g34
            have hwt := whoTxt_len qwho i
            have hpt := pTxt_len qwho i
            have hts : whoTxt qwho (i + 1) = whoTxt qwho i ++ ((if i = 0 then [32] else [44, 32]) ++ digitS (qwho.getD i 0)) := whoTxt_succ _ _
            have hpn : pTxt qwho (i + 1) = whoTxt qwho (i + 1) := by unfold pTxt; rw [if_neg (by omega)]
            by_cases e : i < qwho.length
            · have f1 : decide ((i : Int) < (qwho.length : Int)) = true := decide_eq_true (by omega)
              obtain ⟨x, hx⟩ : ∃ x, qwho[i] = x := ⟨_, rfl⟩
              have hgd : qwho.getD i 0 = x := by rw [List.getD_eq_getElem?_getD, List.getElem?_eq_getElem e, Option.getD_some, hx]
              have hxb := hatw i e
              rw [hgd] at hts hxb
              have hdx : (digitS x).length = 1 := rfl
              have hdigx : Lib.itoa x = digitS x := itoa_dig (by omega) (by omega)
              by_cases i0 : i = 0
              · have j0 : decide ((i : Int) > 0) = false := decide_eq_false (by omega)
                rw [if_pos i0] at hts
                simp -dsimp -implicitDefEqProofs (maxSteps := 1000000) (disch := first | omega | (simp only [List.length_append, List.length_cons, List.length_nil]; omega) | (intros; simp only [ne_eq, reduceCtorEq, not_false_eq_true] <;> fail)) only [DL.R, Nat.reduceEqDiff, ↓reduceIte, reduceCtorEq, Int.reduceToNat, Int.reduceLE, Int.reduceLT, Nat.reduceLeDiff, Nat.reduceAdd, Nat.reduceMul, Int.reduceBNe, Int.reduceBEq, Int.cast_ofNat_Int, decide_true, decide_false, ne_eq, eq_self, implies_true, dc21_r0, dc21_r1, dc21_r2, dc21_r3, dc21_r4, dc21_r5, dc21_r6, dc21_r7, dc21_r8, dc21_r9, dc21_r10, dc21_r11, dc21_r12, dc21_r13, dc21_r14, dc21_r15, dc21_r16, dc21_r17, dc21_r18, dc21_r19, dc21_r20, dc21, DL.dI, DL.dB, DL.dS, g3, g11, g12, g13, g34', g35, gt, f1, hx, j0, DL.wrap_id]
                refine itoa_call x (by omega) (by omega) ?_
                rw [hdigx]
                simp -dsimp -implicitDefEqProofs (maxSteps := 1000000) (disch := first | omega | (simp only [List.length_append, List.length_cons, List.length_nil]; omega) | (intros; simp only [ne_eq, reduceCtorEq, not_false_eq_true] <;> fail)) only [DL.R, Nat.reduceEqDiff, ↓reduceIte, reduceCtorEq, Int.reduceToNat, Int.reduceLE, Int.reduceLT, Nat.reduceLeDiff, Nat.reduceAdd, Nat.reduceMul, Int.reduceBNe, Int.reduceBEq, Int.cast_ofNat_Int, decide_true, decide_false, ne_eq, eq_self, implies_true, dc21_r0, dc21_r1, dc21_r2, dc21_r3, dc21_r4, dc21_r5, dc21_r6, dc21_r7, dc21_r8, dc21_r9, dc21_r10, dc21_r11, dc21_r12, dc21_r13, dc21_r14, dc21_r15, dc21_r16, dc21_r17, dc21_r18, dc21_r19, dc21_r20, dc21, DL.dI, DL.dB, DL.dS, g3, g11, g12, g13, g34', g35, gt, DL.wrap_id]
                refine ws_spec (s := digitS x) gB (by simp [digitS]) (by simp [hdx]; omega) fun K3 hB3 hl3 hf3 => ?_
                have hB3' : BldAt H K3 (T ++ (HD ++ pTxt qwho (i + 1))) := by
                  rw [hpn, hts]; subst i0; simpa [pTxt, whoTxt] using hB3
                simp -dsimp -implicitDefEqProofs (maxSteps := 1000000) (disch := first | omega | (simp only [List.length_append, List.length_cons, List.length_nil]; omega) | (intros; simp only [ne_eq, reduceCtorEq, not_false_eq_true] <;> fail)) only [DL.R, Nat.reduceEqDiff, ↓reduceIte, reduceCtorEq, Int.reduceToNat, Int.reduceLE, Int.reduceLT, Nat.reduceLeDiff, Nat.reduceAdd, Nat.reduceMul, Int.reduceBNe, Int.reduceBEq, Int.cast_ofNat_Int, decide_true, decide_false, ne_eq, eq_self, implies_true, dc21_r0, dc21_r1, dc21_r2, dc21_r3, dc21_r4, dc21_r5, dc21_r6, dc21_r7, dc21_r8, dc21_r9, dc21_r10, dc21_r11, dc21_r12, dc21_r13, dc21_r14, dc21_r15, dc21_r16, dc21_r17, dc21_r18, dc21_r19, dc21_r20, dc21, DL.dI, DL.dB, DL.dS, g3, g11, g12, g13, g34', g35, gt, DL.wrap_id]
                exact ⟨e, hB3', rfl⟩
              · have j0 : decide ((i : Int) > 0) = true := decide_eq_true (by omega)
                rw [if_neg i0] at hts
                simp -dsimp -implicitDefEqProofs (maxSteps := 1000000) (disch := first | omega | (simp only [List.length_append, List.length_cons, List.length_nil]; omega) | (intros; simp only [ne_eq, reduceCtorEq, not_false_eq_true] <;> fail)) only [DL.R, Nat.reduceEqDiff, ↓reduceIte, reduceCtorEq, Int.reduceToNat, Int.reduceLE, Int.reduceLT, Nat.reduceLeDiff, Nat.reduceAdd, Nat.reduceMul, Int.reduceBNe, Int.reduceBEq, Int.cast_ofNat_Int, decide_true, decide_false, ne_eq, eq_self, implies_true, dc21_r0, dc21_r1, dc21_r2, dc21_r3, dc21_r4, dc21_r5, dc21_r6, dc21_r7, dc21_r8, dc21_r9, dc21_r10, dc21_r11, dc21_r12, dc21_r13, dc21_r14, dc21_r15, dc21_r16, dc21_r17, dc21_r18, dc21_r19, dc21_r20, dc21, DL.dI, DL.dB, DL.dS, g3, g11, g12, g13, g34', g35, gt, f1, hx, j0, DL.wrap_id]
                refine ws_spec (s := [44, 32]) gB (by simp) (by simp; omega) fun K3 hB3 hl3 hf3 => ?_
                simp -dsimp -implicitDefEqProofs (maxSteps := 1000000) (disch := first | omega | (simp only [List.length_append, List.length_cons, List.length_nil]; omega) | (intros; simp only [ne_eq, reduceCtorEq, not_false_eq_true] <;> fail)) only [DL.R, Nat.reduceEqDiff, ↓reduceIte, reduceCtorEq, Int.reduceToNat, Int.reduceLE, Int.reduceLT, Nat.reduceLeDiff, Nat.reduceAdd, Nat.reduceMul, Int.reduceBNe, Int.reduceBEq, Int.cast_ofNat_Int, decide_true, decide_false, ne_eq, eq_self, implies_true, dc21_r0, dc21_r1, dc21_r2, dc21_r3, dc21_r4, dc21_r5, dc21_r6, dc21_r7, dc21_r8, dc21_r9, dc21_r10, dc21_r11, dc21_r12, dc21_r13, dc21_r14, dc21_r15, dc21_r16, dc21_r17, dc21_r18, dc21_r19, dc21_r20, dc21, DL.dI, DL.dB, DL.dS, g3, g11, g12, g13, g34', g35, gt, DL.wrap_id]
                refine itoa_call x (by omega) (by omega) ?_
                rw [hdigx]
                simp -dsimp -implicitDefEqProofs (maxSteps := 1000000) (disch := first | omega | (simp only [List.length_append, List.length_cons, List.length_nil]; omega) | (intros; simp only [ne_eq, reduceCtorEq, not_false_eq_true] <;> fail)) only [DL.R, Nat.reduceEqDiff, ↓reduceIte, reduceCtorEq, Int.reduceToNat, Int.reduceLE, Int.reduceLT, Nat.reduceLeDiff, Nat.reduceAdd, Nat.reduceMul, Int.reduceBNe, Int.reduceBEq, Int.cast_ofNat_Int, decide_true, decide_false, ne_eq, eq_self, implies_true, dc21_r0, dc21_r1, dc21_r2, dc21_r3, dc21_r4, dc21_r5, dc21_r6, dc21_r7, dc21_r8, dc21_r9, dc21_r10, dc21_r11, dc21_r12, dc21_r13, dc21_r14, dc21_r15, dc21_r16, dc21_r17, dc21_r18, dc21_r19, dc21_r20, dc21, DL.dI, DL.dB, DL.dS, g3, g11, g12, g13, g34', g35, gt, DL.wrap_id]
                refine ws_spec (s := digitS x) hB3 (by simp [digitS]) (by simp [hdx]; omega) fun K4 hB4 hl4 hf4 => ?_
                have hB4' : BldAt H K4 (T ++ (HD ++ pTxt qwho (i + 1))) := by
                  rw [hpn, hts]
                  have hpi : pTxt qwho i = whoTxt qwho i := by unfold pTxt; rw [if_neg i0]
                  rw [hpi] at hB4
                  simpa using hB4
                simp -dsimp -implicitDefEqProofs (maxSteps := 1000000) (disch := first | omega | (simp only [List.length_append, List.length_cons, List.length_nil]; omega) | (intros; simp only [ne_eq, reduceCtorEq, not_false_eq_true] <;> fail)) only [DL.R, Nat.reduceEqDiff, ↓reduceIte, reduceCtorEq, Int.reduceToNat, Int.reduceLE, Int.reduceLT, Nat.reduceLeDiff, Nat.reduceAdd, Nat.reduceMul, Int.reduceBNe, Int.reduceBEq, Int.cast_ofNat_Int, decide_true, decide_false, ne_eq, eq_self, implies_true, dc21_r0, dc21_r1, dc21_r2, dc21_r3, dc21_r4, dc21_r5, dc21_r6, dc21_r7, dc21_r8, dc21_r9, dc21_r10, dc21_r11, dc21_r12, dc21_r13, dc21_r14, dc21_r15, dc21_r16, dc21_r17, dc21_r18, dc21_r19, dc21_r20, dc21, DL.dI, DL.dB, DL.dS, g3, g11, g12, g13, g34', g35, gt, DL.wrap_id]
                exact ⟨e, hB4', rfl⟩
            · have f1 : decide ((i : Int) < (qwho.length : Int)) = false := decide_eq_false (by omega)
              have hie : i = qwho.length := by omega
              have hpi : pTxt qwho i = whoTxt qwho qwho.length := by rw [hie]; unfold pTxt; rw [if_neg (by omega)]
              rw [hpi] at gB
              have hwt2 := whoTxt_len qwho qwho.length
              simp -dsimp -implicitDefEqProofs (maxSteps := 1000000) (disch := first | omega | (simp only [List.length_append, List.length_cons, List.length_nil]; omega) | (intros; simp only [ne_eq, reduceCtorEq, not_false_eq_true] <;> fail)) only [DL.R, Nat.reduceEqDiff, ↓reduceIte, reduceCtorEq, Int.reduceToNat, Int.reduceLE, Int.reduceLT, Nat.reduceLeDiff, Nat.reduceAdd, Nat.reduceMul, Int.reduceBNe, Int.reduceBEq, Int.cast_ofNat_Int, decide_true, decide_false, ne_eq, eq_self, implies_true, dc21_r0, dc21_r1, dc21_r2, dc21_r3, dc21_r4, dc21_r5, dc21_r6, dc21_r7, dc21_r8, dc21_r9, dc21_r10, dc21_r11, dc21_r12, dc21_r13, dc21_r14, dc21_r15, dc21_r16, dc21_r17, dc21_r18, dc21_r19, dc21_r20, dc21, DL.dI, DL.dB, DL.dS, g3, g11, g12, g13, g34, g35, gt, f1, DL.wrap_id]
              refine ws_spec (s := [10]) gB (by simp) (by simp; omega) fun K3 hB3 hl3 hf3 => ?_
              have hB3' : BldAt H K3 (rulesTxt (l.take (k + 1))) := by
                rw [htk, rulesTxt_snoc, hT, htx]; simpa using hB3
              simp -dsimp -implicitDefEqProofs (maxSteps := 1000000) (disch := first | omega | (simp only [List.length_append, List.length_cons, List.length_nil]; omega) | (intros; simp only [ne_eq, reduceCtorEq, not_false_eq_true] <;> fail)) only [DL.R, Nat.reduceEqDiff, ↓reduceIte, reduceCtorEq, Int.reduceToNat, Int.reduceLE, Int.reduceLT, Nat.reduceLeDiff, Nat.reduceAdd, Nat.reduceMul, Int.reduceBNe, Int.reduceBEq, Int.cast_ofNat_Int, decide_true, decide_false, ne_eq, eq_self, implies_true, dc21_r0, dc21_r1, dc21_r2, dc21_r3, dc21_r4, dc21_r5, dc21_r6, dc21_r7, dc21_r8, dc21_r9, dc21_r10, dc21_r11, dc21_r12, dc21_r13, dc21_r14, dc21_r15, dc21_r16, dc21_r17, dc21_r18, dc21_r19, dc21_r20, dc21, DL.dI, DL.dB, DL.dS, g3, g11, g12, g13, g34, g35, gt, DL.wrap_id]
              exact ⟨c, hB3'⟩
      · have c1 : decide ((k : Int) < (l.length : Int)) = false := decide_eq_false (by omega)
        rw [List.take_of_length_le (by omega)] at hB
        simp -dsimp -implicitDefEqProofs (maxSteps := 1000000) (disch := first | omega | (simp only [List.length_append, List.length_cons, List.length_nil]; omega) | (intros; simp only [ne_eq, reduceCtorEq, not_false_eq_true] <;> fail)) only [DL.R, Nat.reduceEqDiff, ↓reduceIte, reduceCtorEq, Int.reduceToNat, Int.reduceLE, Int.reduceLT, Nat.reduceLeDiff, Nat.reduceAdd, Nat.reduceMul, Int.reduceBNe, Int.reduceBEq, Int.cast_ofNat_Int, decide_true, decide_false, ne_eq, eq_self, implies_true, dc21_r0, dc21_r1, dc21_r2, dc21_r3, dc21_r4, dc21_r5, dc21_r6, dc21_r7, dc21_r8, dc21_r9, dc21_r10, dc21_r11, dc21_r12, dc21_r13, dc21_r14, dc21_r15, dc21_r16, dc21_r17, dc21_r18, dc21_r19, dc21_r20, dc21, DL.dI, DL.dB, DL.dS, h3, h11, h12, ht, c1]
        refine str_spec hB fun Gs => ?_
        simp -dsimp -implicitDefEqProofs (maxSteps := 1000000) (disch := first | omega | (simp only [List.length_append, List.length_cons, List.length_nil]; omega) | (intros; simp only [ne_eq, reduceCtorEq, not_false_eq_true] <;> fail)) only [DL.R, Nat.reduceEqDiff, ↓reduceIte, reduceCtorEq, Int.reduceToNat, Int.reduceLE, Int.reduceLT, Nat.reduceLeDiff, Nat.reduceAdd, Nat.reduceMul, Int.reduceBNe, Int.reduceBEq, Int.cast_ofNat_Int, decide_true, decide_false, ne_eq, eq_self, implies_true, dc21_r0, dc21_r1, dc21_r2, dc21_r3, dc21_r4, dc21_r5, dc21_r6, dc21_r7, dc21_r8, dc21_r9, dc21_r10, dc21_r11, dc21_r12, dc21_r13, dc21_r14, dc21_r15, dc21_r16, dc21_r17, dc21_r18, dc21_r19, dc21_r20, dc21, DL.dI, DL.dB, DL.dS]
        exact ⟨Gs, rfl, .lit _, hQ⟩
  · have hv' : validF l = false := by simpa using hv
    have hp : printF l = [] := by unfold printF; rw [hv']; rfl
    rw [hp] at hQ
    simp -dsimp -implicitDefEqProofs (maxSteps := 1000000) (disch := first | omega | (simp only [List.length_append, List.length_cons, List.length_nil]; omega) | (intros; simp only [ne_eq, reduceCtorEq, not_false_eq_true] <;> fail)) only [DL.R, Nat.reduceEqDiff, ↓reduceIte, reduceCtorEq, Int.reduceToNat, Int.reduceLE, Int.reduceLT, Nat.reduceLeDiff, Nat.reduceAdd, Nat.reduceMul, Int.reduceBNe, Int.reduceBEq, Int.cast_ofNat_Int, decide_true, decide_false, ne_eq, eq_self, implies_true, dc21_r0, dc21_r1, dc21_r2, dc21_r3, dc21_r4, dc21_r5, dc21_r6, dc21_r7, dc21_r8, dc21_r9, dc21_r10, dc21_r11, dc21_r12, dc21_r13, dc21_r14, dc21_r15, dc21_r16, dc21_r17, dc21_r18, dc21_r19, dc21_r20, dc21, DL.dI, DL.dB, DL.dS, hv']
    exact ⟨[], by simp, .lit _, hQ⟩
end Go.Proofs.Tryd
set_option maxRecDepth 100000
set_option maxHeartbeats 2000000
set_option linter.unusedSimpArgs false
set_option linter.unusedVariables false
namespace Go.Proofs.Tryd
open Go Go.DL
theorem itoa_one {n : Int} (h0 : 0 ≤ n) (h1 : n ≤ 9) : Lib.itoa n = [UInt8.ofNat (48 + n.toNat)] := itoa_dig h0 h1
theorem atoi_digit (n : Nat) (h : n < 10) : Lib.atoi [UInt8.ofNat (48 + n)] = some (n : Int) := by
  have : n = 0 ∨ n = 1 ∨ n = 2 ∨ n = 3 ∨ n = 4 ∨ n = 5 ∨ n = 6 ∨ n = 7 ∨ n = 8 ∨ n = 9 := by omega
  rcases this with rfl | rfl | rfl | rfl | rfl | rfl | rfl | rfl | rfl | rfl <;> rfl
theorem numberF_digit (n : Nat) (h : n < 10) : numberF [UInt8.ofNat (48 + n)] = (n : Int) := by
  have : n = 0 ∨ n = 1 ∨ n = 2 ∨ n = 3 ∨ n = 4 ∨ n = 5 ∨ n = 6 ∨ n = 7 ∨ n = 8 ∨ n = 9 := by omega
  rcases this with rfl | rfl | rfl | rfl | rfl | rfl | rfl | rfl | rfl | rfl <;> rfl
theorem numberF_is {t : List UInt8} (h : 0 ≤ numberF t) : ∃ n : Nat, n < 10 ∧ t = [UInt8.ofNat (48 + n)] := by
  unfold numberF at h
  split at h
  · rename_i b
    split at h
    · rename_i hd
      simp only [isDigit, Bool.and_eq_true, decide_eq_true_eq] at hd
      refine ⟨b.toNat - 48, by omega, ?_⟩
      rw [show 48 + (b.toNat - 48) = b.toNat by omega]; simp
    · omega
  · omega
theorem num_eq {t : List UInt8} {least most : Int} (h0 : 0 ≤ least) (h1 : most ≤ 9) : numOk t least most = (decide (least ≤ numberF t) && decide (numberF t ≤ most)) := by
  rw [Bool.eq_iff_iff]
  simp only [numOk]
  constructor
  · intro h
    split at h
    · rename_i n hn
      simp only [Bool.and_eq_true, decide_eq_true_eq, beq_iff_eq] at h
      obtain ⟨⟨h2, h3⟩, h4⟩ := h
      have e := itoa_one (n := n) (by omega) (by omega)
      have : numberF t = n := by
        rw [← h2, e, numberF_digit _ (by omega)]; omega
      rw [this]; simp; omega
    · cases h
  · intro h
    simp only [Bool.and_eq_true, decide_eq_true_eq] at h
    obtain ⟨n, hn, rfl⟩ := numberF_is (t := t) (by omega)
    rw [numberF_digit n hn] at h
    rw [atoi_digit n hn]
    simp only [Bool.and_eq_true, decide_eq_true_eq, beq_iff_eq]
    exact ⟨⟨by rw [itoa_one (by omega) (by omega)]; simp, h.1⟩, h.2⟩
theorem num_val {t : List UInt8} {least most : Int} (h0 : 0 ≤ least) (h1 : most ≤ 9) (h : numOk t least most = true) : numT t = numberF t := by
  rw [num_eq h0 h1] at h
  simp only [Bool.and_eq_true, decide_eq_true_eq] at h
  obtain ⟨n, hn, rfl⟩ := numberF_is (t := t) (by omega)
  rw [numberF_digit n hn]
  unfold numT; rw [atoi_digit n hn]; rfl
section
variable (nn N : Nat)
def Er (l : List Tok) : List Rule × Int := match l with
  | [] => ([], (nn : Int))
  | t :: l' => ([], ((N - offs (t :: l') + t.before.length : Nat) : Int))
def Ex (l : List Tok) (p : PS) : List Rule × Int := refEnd nn (refRun l p (N - offs l))
def Xp (p : PS) (s : RS) : List Rule × Int := if s.bad then Er nn N s.l else Ex nn N s.l p
end
section
variable {nn N : Nat}
theorem Ex_cons {t : Tok} {l : List Tok} {p : PS} (h : offs (t :: l) ≤ N) : Ex nn N (t :: l) p = if (refStep p t.text).2 then Ex nn N l (refStep p t.text).1 else Er nn N (t :: l) := by
  unfold Ex
  rw [refRun]
  by_cases h2 : (refStep p t.text).2 = true
  · rw [if_pos h2, if_pos h2]
    congr 2
    simp only [offs] at h ⊢; omega
  · rw [if_neg h2, if_neg h2]; rfl
def RS.good (N : Nat) (s : RS) : Prop := offs s.l ≤ N ∧ ∀ t ∈ s.l, t.text ≠ []
theorem RS.good_take {N : Nat} {s : RS} {b : Bool} (h : s.good N) : (s.take b).good N := by
  unfold RS.take
  split
  · exact h
  · refine ⟨?_, fun t ht => h.2 t (List.mem_of_mem_drop ht)⟩
    have := h.1
    cases hl : s.l with
    | nil => simp [offs]
    | cons t l => rw [hl] at this; simp [offs] at this ⊢; omega
theorem Xp_take {p p' : PS} {s : RS} {right : Bool} (hg : s.good N) (hnil : s.bad = false → s.l = [] → Ex nn N [] p = Er nn N []) (hstep : s.bad = false → s.nx ≠ [] → (refStep p s.nx).2 = right ∧ (right = true → (refStep p s.nx).1 = p')) :
    Xp nn N p' (s.take right) = Xp nn N p s := by
  obtain ⟨l, bad⟩ := s
  cases bad with
  | true => rfl
  | false =>
    cases l with
    | nil =>
      have e : RS.take ⟨[], false⟩ right = ⟨[], true⟩ := by unfold RS.take RS.no RS.nx nextT; cases right <;> rfl
      rw [e]
      show Er nn N [] = Ex nn N [] p
      exact (hnil rfl rfl).symm
    | cons t l =>
      have hne : t.text ≠ [] := hg.2 t (by simp)
      obtain ⟨h1, h2⟩ := hstep rfl hne
      have hx : RS.nx ⟨t :: l, false⟩ = t.text := rfl
      rw [hx] at h1 h2
      show _ = Ex nn N (t :: l) p
      rw [Ex_cons hg.1, h1]
      have hb : (t.text == []) = false := by simp [hne]
      cases right with
      | true =>
        have e : RS.take ⟨t :: l, false⟩ true = ⟨l, false⟩ := by simp only [RS.take, RS.no, hx, hb]; rfl
        rw [e, if_pos rfl, h2 rfl]; rfl
      | false =>
        have e : RS.take ⟨t :: l, false⟩ false = ⟨t :: l, true⟩ := by simp only [RS.take, RS.no, hx, hb]; rfl
        rw [e]; rfl
theorem Ex_nil {p : PS} (h : p.st ≠ .what) (h2 : p.st ≠ .more ∨ ¬ p.r.n ≤ (p.r.who.length : Int)) : Ex nn N [] p = Er nn N [] := by
  show refEnd nn (some p, _) = _
  simp only [refEnd]
  rw [if_neg h, if_neg (fun q => by rcases h2 with z | z; exact z q.1; exact z q.2)]; rfl
theorem RS.take_bad {s : RS} {b : Bool} (h : (s.take b).bad = false) : s.bad = false ∧ b = true ∧ s.nx ≠ [] := by
  unfold RS.take at h
  split at h
  · cases h
  · rename_i h2
    simp only [RS.no, Bool.or_eq_true, Bool.not_eq_true', beq_iff_eq, not_or, Bool.not_eq_true, Bool.not_eq_false] at h2
    exact ⟨h, h2.1.2, h2.2⟩
theorem more_what {out : List Rule} {r : Rule} {l : List Tok} (hg : offs l ≤ N) (hn : r.n ≤ (r.who.length : Int)) (hx : nextT l ≠ [44]) : Ex nn N l ⟨out, r, .more⟩ = Ex nn N l ⟨out ++ [r], r, .what⟩ := by
  cases l with
  | nil =>
    show refEnd nn (some _, _) = refEnd nn (some _, _)
    simp [refEnd, hn]
  | cons t l =>
    rw [Ex_cons hg, Ex_cons hg]
    have e : refStep ⟨out, r, .more⟩ t.text = refStep ⟨out ++ [r], r, .what⟩ t.text := by
      have h1 : PS.again ⟨out, r, .more⟩ t.text = true := by
        have : t.text ≠ [44] := hx
        simp [PS.again, this, hn]
      have h2 : PS.again ⟨out ++ [r], r, .what⟩ t.text = false := by simp [PS.again]
      unfold refStep PS.pre
      rw [h1, h2]; rfl
    rw [e]
theorem who_sim : ∀ (f : Nat) (s : RS) (out : List Rule) (w m : ByteArray) (n least : Int) (who : List Int), s.good N → s.left < f → (0 ≤ least) → (least = if who = [] then 0 else who.getD (who.length - 1) 0 + 1) →
    Xp nn N ⟨out, ⟨w, m, n, who⟩, .who⟩ s = if (whoF f s least n who).2.bad then Er nn N (whoF f s least n who).2.l else Ex nn N (whoF f s least n who).2.l ⟨out ++ [⟨w, m, n, (whoF f s least n who).1⟩], ⟨w, m, n, (whoF f s least n who).1⟩, .what⟩
  | 0, s, out, w, m, n, least, who, hg, hf, h0, hl => by omega
  | f + 1, s, out, w, m, n, least, who, hg, hf, h0, hl => by
    rw [whoF]
    by_cases hb : s.bad = true
    · rw [if_pos hb]
      simp only [Xp, hb, if_true]
    · have hb' : s.bad = false := by simpa using hb
      rw [if_neg hb]
      have hg1 : (s.num least 7).good N := RS.good_take hg

      have e1 : Xp nn N ⟨out, ⟨w, m, n, who ++ [numberF s.nx]⟩, .more⟩ (s.num least 7) = Xp nn N ⟨out, ⟨w, m, n, who⟩, .who⟩ s := by
        unfold RS.num
        refine Xp_take hg (fun _ _ => Ex_nil (by simp) (.inl (by simp))) fun _ _ => ⟨?_, fun _ => ?_⟩
        · rw [num_eq h0 (by omega)]
          have hp : PS.pre ⟨out, ⟨w, m, n, who⟩, .who⟩ s.nx = ⟨out, ⟨w, m, n, who⟩, .who⟩ := by simp [PS.pre, PS.again]
          unfold refStep
          rw [hp]
          simp only
          rw [Bool.eq_iff_iff]
          by_cases hw : who = []
          · rw [if_pos hw] at hl
            simp [hw, hl]
          · rw [if_neg hw] at hl
            have hwl : who.length ≠ 0 := by simpa using hw
            simp only [Bool.and_eq_true, Bool.or_eq_true, decide_eq_true_eq, beq_iff_eq]
            constructor
            · rintro ⟨⟨_, q2⟩, q3 | q3⟩
              · exact absurd q3 hwl
              · exact ⟨by omega, q2⟩
            · rintro ⟨q1, q2⟩
              exact ⟨⟨by omega, q2⟩, .inr (by omega)⟩
        · have hp : PS.pre ⟨out, ⟨w, m, n, who⟩, .who⟩ s.nx = ⟨out, ⟨w, m, n, who⟩, .who⟩ := by simp [PS.pre, PS.again]
          unfold refStep
          rw [hp]
      rw [← e1]
      have hlt : (s.num least 7).left < s.left := RS.take_left.2 hb'
      by_cases hb1 : (s.num least 7).bad = true
      · 
        have e2' : ∀ u : RS, u.bad = true → ∀ b, u.take b = u := by
          rintro ⟨l1, b1⟩ h b
          simp only at h
          subst h
          rfl
        have e2 := e2' _ hb1
        have e3 : ∀ f' least' who', (whoF f' (s.num least 7) least' n who').2 = s.num least 7 := fun f' least' who' => by
          cases f' with
          | zero => rfl
          | succ f' => rw [whoF, if_pos hb1]
        have e4 : ∀ p, Xp nn N p (s.num least 7) = Er nn N (s.num least 7).l := fun p => by unfold Xp; rw [if_pos hb1]
        rw [e4]
        split
        · first | rfl | rw [if_pos hb1]
        · rw [e2, e3, if_pos hb1]
      · have hb1' : (s.num least 7).bad = false := by simpa using hb1
        obtain ⟨_, hok, hnx⟩ := RS.take_bad hb1'
        have hval : numT s.nx = numberF s.nx := num_val h0 (by omega) hok
        rw [num_eq h0 (by omega)] at hok
        simp only [Bool.and_eq_true, decide_eq_true_eq] at hok
        rw [hval]
        split
        · rename_i hc
          simp only [Bool.and_eq_true, decide_eq_true_eq, bne_iff_ne] at hc
          try rw [if_neg hb1]
          show Xp nn N _ (s.num least 7) = _
          unfold Xp
          rw [if_neg hb1]
          exact more_what hg1.1 hc.1 hc.2
        · rename_i hc
          simp only [Bool.and_eq_true, decide_eq_true_eq, bne_iff_ne, not_and, Decidable.not_not] at hc
          have e5 : Xp nn N ⟨out, ⟨w, m, n, who ++ [numberF s.nx]⟩, .who⟩ ((s.num least 7).take ((s.num least 7).nx == [44])) = Xp nn N ⟨out, ⟨w, m, n, who ++ [numberF s.nx]⟩, .more⟩ (s.num least 7) := by
            refine Xp_take hg1 (fun _ hn => Ex_nil (by simp) (.inr fun q => ?_)) fun _ hne => ?_
            · have := hc q
              simp [RS.nx, hn, nextT] at this
            · have ha : PS.again ⟨out, ⟨w, m, n, who ++ [numberF s.nx]⟩, .more⟩ (s.num least 7).nx = false := by
                rw [← Bool.not_eq_true]
                intro q
                simp only [PS.again, Bool.and_eq_true, decide_eq_true_eq, bne_iff_ne] at q
                exact q.1.2 (hc q.2)
              unfold refStep PS.pre
              rw [ha]
              exact ⟨rfl, fun _ => rfl⟩
          rw [← e5]
          have hlt2 := (RS.take_left (s := s.num least 7) (b := (s.num least 7).nx == [44])).1
          exact who_sim f _ out w m n (numberF s.nx + 1) (who ++ [numberF s.nx]) (RS.good_take hg1) (by omega) (by omega) (by
            rw [if_neg (by simp)]; simp [List.getD_eq_getElem?_getD])
end
end Go.Proofs.Tryd
set_option maxRecDepth 100000
set_option maxHeartbeats 2000000
set_option linter.unusedSimpArgs false
set_option linter.unusedVariables false
namespace Go.Proofs.Tryd
open Go Go.DL
section
variable {nn N : Nat}
theorem whoF_bad {s : RS} (h : s.bad = true) : ∀ (f : Nat) (least n : Int) (who : List Int), whoF f s least n who = (who, s)
  | 0, _, _, _ => rfl
  | f + 1, least, n, who => by rw [whoF, if_pos h]
theorem Xp_bad {p : PS} {s : RS} (h : s.bad = true) : Xp nn N p s = Er nn N s.l := by unfold Xp; rw [if_pos h]
theorem got_ok {s : RS} {b : Bool} (h : (s.take b).bad = false) : s.got b = s.nx := by
  obtain ⟨h1, h2, h3⟩ := RS.take_bad h
  unfold RS.got RS.no
  rw [h1, h2]; simp [h3]
theorem pre_no {p : PS} {t : List UInt8} (h : p.st ≠ .more) : p.pre t = p := by
  have : p.again t = false := by simp [PS.again, h]
  unfold PS.pre; rw [this]; rfl
theorem rule_sim (s : RS) (out : List Rule) (r0 : Rule) (hg : s.good N) (hl : s.l ≠ []) (hb : s.bad = false) (ho : out.length < 64) :
    Ex nn N s.l ⟨out, r0, .what⟩ = Xp nn N ⟨out ++ [ruleOf s], ruleOf s, .what⟩ (rsWho s).2 := by
  have e0 : Ex nn N s.l ⟨out, r0, .what⟩ = Xp nn N ⟨out, r0, .what⟩ s := by unfold Xp; rw [if_neg (by simp [hb])]
  have g1 : (rs1 s).good N := RS.good_take hg
  have e1 : Xp nn N ⟨out, ⟨str s.nx, str [], 0, []⟩, .inn⟩ (rs1 s) = Xp nn N ⟨out, r0, .what⟩ s := by
    refine Xp_take hg (fun _ h => absurd h hl) fun _ _ => ?_
    unfold refStep
    rw [pre_no (by simp)]
    refine ⟨?_, fun _ => rfl⟩
    simp only [ho, decide_true, Bool.and_true]
    exact (isWhat_eq _).symm

  have e2 : ∃ m, Xp nn N ⟨out, ⟨str s.nx, m, 0, []⟩, .count⟩ (rs4 s) = Xp nn N ⟨out, ⟨str s.nx, str [], 0, []⟩, .inn⟩ (rs1 s) ∧ ((rs4 s).bad = false → (rs1 s).bad = false ∧ m = str (rsMod s)) := by
    by_cases hin : (rs1 s).nx = [105, 110]
    · have h3 : rs3 s = (rs2 s).take (isWord kwL (rs2 s).nx) := by unfold rs3; rw [if_pos hin]
      have hm : rsMod s = (rs2 s).got (isWord kwL (rs2 s).nx) := by unfold rsMod; rw [if_pos hin]
      have g2 : (rs2 s).good N := RS.good_take g1
      have g3 : (rs3 s).good N := h3 ▸ RS.good_take g2
      refine ⟨str (rs2 s).nx, ?_, fun h => ?_⟩
      · have a1 : Xp nn N ⟨out, ⟨str s.nx, str [], 0, []⟩, .name⟩ (rs2 s) = Xp nn N ⟨out, ⟨str s.nx, str [], 0, []⟩, .inn⟩ (rs1 s) := by
          refine Xp_take g1 (fun _ _ => Ex_nil (by simp) (.inl (by simp))) fun _ _ => ?_
          unfold refStep
          rw [pre_no (by simp)]
          simp only [hin]
          exact ⟨rfl, fun _ => rfl⟩
        have a2 : Xp nn N ⟨out, ⟨str s.nx, str (rs2 s).nx, 0, []⟩, .colon⟩ (rs3 s) = Xp nn N ⟨out, ⟨str s.nx, str [], 0, []⟩, .name⟩ (rs2 s) := by
          rw [h3]
          refine Xp_take g2 (fun _ _ => Ex_nil (by simp) (.inl (by simp))) fun _ _ => ?_
          unfold refStep
          rw [pre_no (by simp)]
          exact ⟨rfl, fun _ => rfl⟩
        have a3 : Xp nn N ⟨out, ⟨str s.nx, str (rs2 s).nx, 0, []⟩, .count⟩ (rs4 s) = Xp nn N ⟨out, ⟨str s.nx, str (rs2 s).nx, 0, []⟩, .colon⟩ (rs3 s) := by
          refine Xp_take g3 (fun _ _ => Ex_nil (by simp) (.inl (by simp))) fun _ _ => ?_
          unfold refStep
          rw [pre_no (by simp)]
          exact ⟨rfl, fun _ => rfl⟩
        rw [a3, a2, a1]
      · have h' := (RS.take_bad h).1
        rw [h3] at h'
        have h'' := (RS.take_bad h').1
        exact ⟨(RS.take_bad h'').1, by rw [hm, got_ok h']⟩
    · have h3 : rs3 s = rs1 s := by unfold rs3; rw [if_neg hin]
      have hm : rsMod s = [] := by unfold rsMod; rw [if_neg hin]
      have h4 : rs4 s = (rs1 s).take ((rs1 s).nx == [58]) := by unfold rs4; rw [h3]
      refine ⟨str [], ?_, fun h => ?_⟩
      · rw [h4]
        refine Xp_take g1 (fun _ _ => Ex_nil (by simp) (.inl (by simp))) fun _ _ => ?_
        unfold refStep
        rw [pre_no (by simp)]
        exact ⟨by simp [hin], fun _ => by simp [hin]⟩
      · rw [h4] at h
        exact ⟨(RS.take_bad h).1, by rw [hm]⟩
  obtain ⟨m, e2, m2⟩ := e2
  have g3 : (rs3 s).good N := by
    unfold rs3; split
    · exact RS.good_take (RS.good_take g1)
    · exact g1
  have g4 : (rs4 s).good N := RS.good_take g3
  have g5 : (rs5 s).good N := RS.good_take g4
  have g6 : (rs6 s).good N := RS.good_take g5
  have e5 : Xp nn N ⟨out, ⟨str s.nx, m, numberF (rs4 s).nx, []⟩, .of_⟩ (rs5 s) = Xp nn N ⟨out, ⟨str s.nx, m, 0, []⟩, .count⟩ (rs4 s) := by
    refine Xp_take g4 (fun _ _ => Ex_nil (by simp) (.inl (by simp))) fun _ _ => ?_
    unfold refStep
    rw [pre_no (by simp)]
    exact ⟨(num_eq (by omega) (by omega)).symm, fun _ => rfl⟩
  have e6 : Xp nn N ⟨out, ⟨str s.nx, m, numberF (rs4 s).nx, []⟩, .who⟩ (rs6 s) = Xp nn N ⟨out, ⟨str s.nx, m, numberF (rs4 s).nx, []⟩, .of_⟩ (rs5 s) := by
    refine Xp_take g5 (fun _ _ => Ex_nil (by simp) (.inl (by simp))) fun _ _ => ?_
    unfold refStep
    rw [pre_no (by simp)]
    exact ⟨rfl, fun _ => rfl⟩
  rw [e0, ← e1, ← e2, ← e5, ← e6]
  by_cases hb6 : (rs6 s).bad = true
  · have : rsWho s = ([], rs6 s) := by unfold rsWho; exact whoF_bad hb6 _ _ _ _
    rw [this, Xp_bad hb6, Xp_bad hb6]
  · have hb6' : (rs6 s).bad = false := by simpa using hb6
    have hb5 := (RS.take_bad hb6').1
    obtain ⟨hb4, hok, _⟩ := RS.take_bad hb5
    have hval : numT (rs4 s).nx = numberF (rs4 s).nx := num_val (by omega) (by omega) hok
    obtain ⟨hb1, hm⟩ := m2 hb4
    have hwho : rsWho s = whoF ((rs6 s).left + 1) (rs6 s) 0 (numberF (rs4 s).nx) [] := by unfold rsWho; rw [hval]
    rw [who_sim ((rs6 s).left + 1) (rs6 s) out (str s.nx) m (numberF (rs4 s).nx) 0 [] g6 (by omega) (by omega) rfl]
    have hro : ruleOf s = ⟨str s.nx, m, numberF (rs4 s).nx, (whoF ((rs6 s).left + 1) (rs6 s) 0 (numberF (rs4 s).nx) []).1⟩ := by
      unfold ruleOf
      have hgot : s.got (isWhat kindsL s.nx) = s.nx := got_ok hb1
      rw [hgot, hm, hval, hwho]
    rw [hro, hwho]
    rfl
theorem rsWho_good {s : RS} (h : s.good N) : (rsWho s).2.good N := by
  have hw : ∀ (f : Nat) (s : RS) (least n : Int) (who : List Int), s.good N → (whoF f s least n who).2.good N := by
    intro f
    induction f with
    | zero => intro s least n who h; exact h
    | succ f ih =>
      intro s least n who h
      rw [whoF]
      split
      · exact h
      · split
        · exact RS.good_take h
        · exact ih _ _ _ _ (RS.good_take (RS.good_take h))
  refine hw _ _ _ _ _ (RS.good_take (RS.good_take (RS.good_take ?_)))
  unfold rs3; split
  · exact RS.good_take (RS.good_take (RS.good_take h))
  · exact RS.good_take h
theorem offs_drop (l : List Tok) (k : Nat) : offs (l.take k) + offs (l.drop k) = offs l := by
  induction l generalizing k with
  | nil => simp [offs]
  | cons t l ih =>
    cases k with
    | zero => simp [offs]
    | succ k => have := ih k; simp [offs]; omega
theorem parse_sim (ts : List Tok) : ∀ (f : Nat) (s : RS) (out : List Rule) (r0 : Rule), s.good (offs ts) → s.ok → s.suf ⟨ts, false⟩ → s.left < f → out.length ≤ 64 → parseEnd nn ts (parseF f s out) = Xp nn (offs ts) ⟨out, r0, .what⟩ s
  | 0, s, out, r0, hg, hk, hs, hf, ho => by omega
  | f + 1, s, out, r0, hg, hk, hs, hf, ho => by
    have herr : ∀ u : RS, u.bad = true → u.suf ⟨ts, false⟩ → parseEnd nn ts (out, u) = Er nn (offs ts) u.l := by
      intro u hu hsu
      unfold parseEnd
      rw [if_neg (by simp [hu])]
      unfold Er
      cases hul : u.l with
      | nil => rfl
      | cons t l' =>
        simp only
        have h2 := hsu.2
        have h1 := offs_drop ts (ts.length - u.l.length)
        simp only at h2
        rw [← h2, hul] at h1
        have : offs (ts.take (ts.length - (t :: l').length)) = offs ts - offs (t :: l') := by omega
        rw [this]
    rw [parseF]
    by_cases hb : s.bad = true
    · rw [if_pos (by simp [hb]), herr s hb hs, Xp_bad hb]
    · have hb' : s.bad = false := by simpa using hb
      by_cases hl : s.l = []
      · rw [if_pos (by simp [hl])]
        unfold parseEnd Xp
        rw [if_pos hb', if_neg hb, hl]
        rfl
      · rw [if_neg (by simp [hb', hl])]
        by_cases h64 : out.length = 64
        · rw [if_pos h64, herr ⟨s.l, true⟩ rfl hs]
          unfold Xp
          rw [if_neg hb]
          cases hsl : s.l with
          | nil => exact absurd hsl hl
          | cons t l' =>
            have hg1 := hg.1
            rw [hsl] at hg1
            rw [Ex_cons hg1]
            have : (refStep ⟨out, r0, .what⟩ t.text).2 = false := by
              unfold refStep
              rw [pre_no (by simp)]
              simp [h64]
            rw [if_neg (by simp [this])]
        · rw [if_neg h64]
          obtain ⟨w1, w2, w3⟩ := rsWho_ok hk
          have w2 := w2 hb'
          rw [parse_sim ts f (rsWho s).2 (out ++ [ruleOf s]) (ruleOf s) (rsWho_good hg) w1 (RS.suf_trans w3 hs) (by omega) (by simp; omega)]
          rw [← rule_sim s out r0 hg hl hb' (by omega)]
          unfold Xp
          rw [if_neg hb]
end
theorem parse_eq (l : List UInt8) : parseP l = refP l := by
  unfold parseP refP
  split
  · rfl
  · obtain ⟨k1, k2, k3⟩ := scan_ok l
    rw [parse_sim (nn := l.length) (scan l).1 _ ⟨(scan l).1, false⟩ [] ⟨str [], str [], 0, []⟩ ⟨Nat.le_refl _, fun t ht => (k2 t ht).2⟩ ⟨k1, fun t ht => (k2 t ht).1⟩ (RS.suf_refl _) (by omega) (by simp)]
    unfold Xp Ex
    simp only [Bool.false_eq_true, if_false, Nat.sub_self]
end Go.Proofs.Tryd
set_option maxRecDepth 100000
set_option maxHeartbeats 2000000
set_option linter.unusedSimpArgs false
set_option linter.unusedVariables false
namespace Go.Proofs.Tryd
open Go Go.DL
variable {G : Nat → D} {H : List O} {Q : D → List O → Prop}
def lv1 : List UInt8 := [98, 111, 100, 121, 32, 105, 110, 32, 109, 105, 108, 108, 58, 32, 50, 32, 111, 102, 32, 48, 44, 32, 49, 44, 32, 51]
def lv2 : List UInt8 := [97, 110, 121, 58, 32, 49, 32, 111, 102]
def lv3 : List UInt8 := [97, 110, 121, 58, 32, 50, 32, 111, 102, 32, 51, 32, 110, 97, 109, 101, 58, 32, 49, 32, 111, 102, 32, 48]
def lvR : List Rule := [⟨str [98, 111, 100, 121], str [109, 105, 108, 108], 2, [0, 1, 3]⟩]
theorem lv1_eq : parseP lv1 = (lvR, -1) := by rw [parse_eq]; rfl
theorem lv2_eq : parseP lv2 = ([], 9) := by rw [parse_eq]; rfl
theorem lv3_eq : parseP lv3 = ([], 12) := by rw [parse_eq]; rfl
theorem sameRules_refl (l : List Rule) : sameRules l l = true := by
  simp only [sameRules, beq_self_eq_true, Bool.true_and, List.all_eq_true]
  intro p hp
  obtain ⟨i, hi, rfl⟩ := List.mem_iff_getElem.1 hp
  simp [sameRule]
theorem lvR_len : ∀ r ∈ lvR, ruleLen r := by
  intro r hr
  simp only [lvR, List.mem_singleton] at hr
  subst hr
  simp [ruleLen, bl8_str]
theorem lv_e1 : enough lvR 1 [0, 1, 0] = false := by decide
theorem lv_e2 : enough lvR 2 [0, 1] = true := by decide
theorem lv_print : printF lvR = [98, 111, 100, 121, 32, 105, 110, 32, 109, 105, 108, 108, 58, 32, 50, 32, 111, 102, 32, 48, 44, 32, 49, 44, 32, 51, 10] := by rfl
theorem lv_what : whatOf kindsL 12 = [98, 111, 100, 121] := rfl
theorem lives_spec (hE : Env G) (hQ : Q (dB true) H) : CallA Tryd.prog G 17 [] H Q := by
  refine s17 (Nat.le_of_ble_eq_true rfl) ?_
  simp -dsimp -implicitDefEqProofs (maxSteps := 1000000) (disch := first | omega | (simp only [List.length_append, List.length_cons, List.length_nil]; omega) | (intros; simp only [ne_eq, reduceCtorEq, not_false_eq_true] <;> fail)) only [DL.R, Nat.reduceEqDiff, ↓reduceIte, reduceCtorEq, Int.reduceToNat, Int.reduceLE, Int.reduceLT, Nat.reduceLeDiff, Nat.reduceAdd, Nat.reduceMul, Int.reduceBNe, Int.reduceBEq, Int.cast_ofNat_Int, decide_true, decide_false, ne_eq, eq_self, implies_true, dc17_r0, dc17_r1, dc17_r2, dc17_r3, dc17_r4, dc17_r5, dc17_r6, dc17_r7, dc17, DL.dI, DL.dB, DL.dS]
  refine parse_spec hE lv1 (by decide) ?_
  rw [lv1_eq]
  unfold parseD
  simp -dsimp -implicitDefEqProofs (maxSteps := 1000000) (disch := first | omega | (simp only [List.length_append, List.length_cons, List.length_nil]; omega) | (intros; simp only [ne_eq, reduceCtorEq, not_false_eq_true] <;> fail)) only [DL.R, Nat.reduceEqDiff, ↓reduceIte, reduceCtorEq, Int.reduceToNat, Int.reduceLE, Int.reduceLT, Nat.reduceLeDiff, Nat.reduceAdd, Nat.reduceMul, Int.reduceBNe, Int.reduceBEq, Int.cast_ofNat_Int, decide_true, decide_false, ne_eq, eq_self, implies_true, dc17_r0, dc17_r1, dc17_r2, dc17_r3, dc17_r4, dc17_r5, dc17_r6, dc17_r7, dc17, DL.dI, DL.dB, DL.dS]
  refine parse_spec hE lv2 (by decide) ?_
  rw [lv2_eq]
  unfold parseD
  simp -dsimp -implicitDefEqProofs (maxSteps := 1000000) (disch := first | omega | (simp only [List.length_append, List.length_cons, List.length_nil]; omega) | (intros; simp only [ne_eq, reduceCtorEq, not_false_eq_true] <;> fail)) only [DL.R, Nat.reduceEqDiff, ↓reduceIte, reduceCtorEq, Int.reduceToNat, Int.reduceLE, Int.reduceLT, Nat.reduceLeDiff, Nat.reduceAdd, Nat.reduceMul, Int.reduceBNe, Int.reduceBEq, Int.cast_ofNat_Int, decide_true, decide_false, ne_eq, eq_self, implies_true, dc17_r0, dc17_r1, dc17_r2, dc17_r3, dc17_r4, dc17_r5, dc17_r6, dc17_r7, dc17, DL.dI, DL.dB, DL.dS]
  refine parse_spec hE lv3 (by decide) ?_
  rw [lv3_eq]
  unfold parseD
  simp -dsimp -implicitDefEqProofs (maxSteps := 1000000) (disch := first | omega | (simp only [List.length_append, List.length_cons, List.length_nil]; omega) | (intros; simp only [ne_eq, reduceCtorEq, not_false_eq_true] <;> fail)) only [DL.R, Nat.reduceEqDiff, ↓reduceIte, reduceCtorEq, Int.reduceToNat, Int.reduceLE, Int.reduceLT, Nat.reduceLeDiff, Nat.reduceAdd, Nat.reduceMul, Int.reduceBNe, Int.reduceBEq, Int.cast_ofNat_Int, decide_true, decide_false, ne_eq, eq_self, implies_true, dc17_r0, dc17_r1, dc17_r2, dc17_r3, dc17_r4, dc17_r5, dc17_r6, dc17_r7, dc17, DL.dI, DL.dB, DL.dS]
  refine sameRules_spec lvR lvR (by decide) (fun r hr => (lvR_len r hr).2.2) ?_
  rw [sameRules_refl]
  simp -dsimp -implicitDefEqProofs (maxSteps := 1000000) (disch := first | omega | (simp only [List.length_append, List.length_cons, List.length_nil]; omega) | (intros; simp only [ne_eq, reduceCtorEq, not_false_eq_true] <;> fail)) only [DL.R, Nat.reduceEqDiff, ↓reduceIte, reduceCtorEq, Int.reduceToNat, Int.reduceLE, Int.reduceLT, Nat.reduceLeDiff, Nat.reduceAdd, Nat.reduceMul, Int.reduceBNe, Int.reduceBEq, Int.cast_ofNat_Int, decide_true, decide_false, ne_eq, eq_self, implies_true, dc17_r0, dc17_r1, dc17_r2, dc17_r3, dc17_r4, dc17_r5, dc17_r6, dc17_r7, dc17, DL.dI, DL.dB, DL.dS]
  refine enough_spec lvR 1 [0, 1, 0] (by decide) (by decide) (fun r hr => (lvR_len r hr).2.2) ?_
  rw [lv_e1]
  simp -dsimp -implicitDefEqProofs (maxSteps := 1000000) (disch := first | omega | (simp only [List.length_append, List.length_cons, List.length_nil]; omega) | (intros; simp only [ne_eq, reduceCtorEq, not_false_eq_true] <;> fail)) only [DL.R, Nat.reduceEqDiff, ↓reduceIte, reduceCtorEq, Int.reduceToNat, Int.reduceLE, Int.reduceLT, Nat.reduceLeDiff, Nat.reduceAdd, Nat.reduceMul, Int.reduceBNe, Int.reduceBEq, Int.cast_ofNat_Int, decide_true, decide_false, ne_eq, eq_self, implies_true, dc17_r0, dc17_r1, dc17_r2, dc17_r3, dc17_r4, dc17_r5, dc17_r6, dc17_r7, dc17, DL.dI, DL.dB, DL.dS]
  refine enough_spec lvR 2 [0, 1] (by decide) (by decide) (fun r hr => (lvR_len r hr).2.2) ?_
  rw [lv_e2]
  simp -dsimp -implicitDefEqProofs (maxSteps := 1000000) (disch := first | omega | (simp only [List.length_append, List.length_cons, List.length_nil]; omega) | (intros; simp only [ne_eq, reduceCtorEq, not_false_eq_true] <;> fail)) only [DL.R, Nat.reduceEqDiff, ↓reduceIte, reduceCtorEq, Int.reduceToNat, Int.reduceLE, Int.reduceLT, Nat.reduceLeDiff, Nat.reduceAdd, Nat.reduceMul, Int.reduceBNe, Int.reduceBEq, Int.cast_ofNat_Int, decide_true, decide_false, ne_eq, eq_self, implies_true, dc17_r0, dc17_r1, dc17_r2, dc17_r3, dc17_r4, dc17_r5, dc17_r6, dc17_r7, dc17, DL.dI, DL.dB, DL.dS]
  refine print_spec hE lvR (by decide) lvR_len ?_
  rw [lv_print]
  simp -dsimp -implicitDefEqProofs (maxSteps := 1000000) (disch := first | omega | (simp only [List.length_append, List.length_cons, List.length_nil]; omega) | (intros; simp only [ne_eq, reduceCtorEq, not_false_eq_true] <;> fail)) only [DL.R, Nat.reduceEqDiff, ↓reduceIte, reduceCtorEq, Int.reduceToNat, Int.reduceLE, Int.reduceLT, Nat.reduceLeDiff, Nat.reduceAdd, Nat.reduceMul, Int.reduceBNe, Int.reduceBEq, Int.cast_ofNat_Int, decide_true, decide_false, ne_eq, eq_self, implies_true, dc17_r0, dc17_r1, dc17_r2, dc17_r3, dc17_r4, dc17_r5, dc17_r6, dc17_r7, dc17, DL.dI, DL.dB, DL.dS, BEq.rfl]
  refine What_spec kindsL rfl 12 _ hE.kinds ?_
  rw [lv_what]
  simp -dsimp -implicitDefEqProofs (maxSteps := 1000000) (disch := first | omega | (simp only [List.length_append, List.length_cons, List.length_nil]; omega) | (intros; simp only [ne_eq, reduceCtorEq, not_false_eq_true] <;> fail)) only [DL.R, Nat.reduceEqDiff, ↓reduceIte, reduceCtorEq, Int.reduceToNat, Int.reduceLE, Int.reduceLT, Nat.reduceLeDiff, Nat.reduceAdd, Nat.reduceMul, Int.reduceBNe, Int.reduceBEq, Int.cast_ofNat_Int, decide_true, decide_false, ne_eq, eq_self, implies_true, dc17_r0, dc17_r1, dc17_r2, dc17_r3, dc17_r4, dc17_r5, dc17_r6, dc17_r7, dc17, DL.dI, DL.dB, DL.dS, BEq.rfl]
  exact hQ
end Go.Proofs.Tryd
set_option maxRecDepth 100000
set_option maxHeartbeats 2000000
set_option linter.unusedSimpArgs false
set_option linter.unusedVariables false
namespace Go.Proofs.Tryd
open Go Go.DL
variable {G : Nat → D} {H : List O} {Q : D → List O → Prop}
def Weak (d' d : D) : Prop := ∀ c H v, RdV c H d' v → RdV c H d v
theorem Weak.refl (d : D) : Weak d d := fun _ _ _ h => h
theorem Weak.nil : Weak (.lit (.slice none 0 0)) (.sl []) := by
  intro c H v hv
  cases hv
  exact .sl [] none ⟨0, 0, none⟩ 0 1 (fun _ _ => undef) (Nat.le_refl _) (fun hp => by simp at hp) (fun j hj => by simp at hj) (fun j hj => by simp at hj) (fun j hj => by simp at hj) (fun j hj => by simp at hj)
inductive WeakL : List D → List D → Prop
  | nil : WeakL [] []
  | cons {d d' : D} {ds ds' : List D} (h : Weak d' d) (hs : WeakL ds' ds) : WeakL (d' :: ds') (d :: ds)
theorem WeakL.refl : ∀ ds : List D, WeakL ds ds
  | [] => .nil
  | d :: ds => .cons (Weak.refl d) (WeakL.refl ds)
theorem WeakL.len {ds ds' : List D} (h : WeakL ds' ds) : ds'.length = ds.length := by
  induction h with
  | nil => rfl
  | cons _ _ ih => simp [ih]
theorem WeakL.get {ds ds' : List D} (h : WeakL ds' ds) : ∀ i (h1 : i < ds'.length) (h2 : i < ds.length), Weak (ds'[i]'h1) (ds[i]'h2) := by
  induction h with
  | nil => intro i h1; simp at h1
  | cons h hs ih =>
    intro i h1 h2
    cases i with
    | zero => exact h
    | succ i => exact ih i (by simpa using h1) (by simpa using h2)
theorem ruleWho_len (l : List Int) (i : Nat) : (ruleWho l i).length ≤ 8 := whoN_len _ _
theorem rulesF_len (l : List Int) (names : List (List UInt8)) (most : Int) (h : 0 ≤ most) : ((rulesF l names most).length : Int) ≤ most := by
  have := at_range l 0 (most + 1) (by omega)
  simp only [rulesF, List.length_map, List.length_range]; omega
theorem rulesF_mem {l : List Int} {names : List (List UInt8)} {most : Int} {r : Rule} (h : r ∈ rulesF l names most) : ∃ i, r = ruleF l names i := by
  obtain ⟨i, _, rfl⟩ := List.mem_map.1 h
  exact ⟨i, rfl⟩
end Go.Proofs.Tryd
set_option maxRecDepth 100000
set_option linter.unusedSimpArgs false
set_option linter.unusedVariables false
namespace Go.Proofs.Tryd
open Go Go.DL
def bst : Bool → List UInt8 → Option Bool
  | c, [] => some c
  | c, b :: l => if b = 10 then bst false l else if c then bst true l else if b = 32 then bst false l else if b = 35 then bst true l else none
theorem bl_bst : ∀ (c : Bool) (g R : List UInt8) (d : Bool), bst c g = some d → bl c (g ++ R) = g.length + bl d R
  | c, [], R, d, h => by simp only [bst, Option.some.injEq] at h; subst h; simp
  | c, b :: l, R, d, h => by
    simp only [bst] at h
    simp only [List.cons_append, bl, List.length_cons]
    split at h
    · rename_i e; rw [if_pos e, bl_bst _ l R d h]; omega
    · rename_i e
      rw [if_neg e]
      split at h
      · rename_i e2; rw [if_pos e2, bl_bst _ l R d h]; omega
      · rename_i e2
        rw [if_neg e2]
        split at h
        · rename_i e3; rw [if_pos e3, bl_bst _ l R d h]; omega
        · rename_i e3
          rw [if_neg e3]
          split at h
          · rename_i e4; rw [if_pos e4, bl_bst _ l R d h]; omega
          · cases h
theorem bst_app : ∀ (c : Bool) (g g' : List UInt8) (d : Bool), bst c g = some d → bst c (g ++ g') = bst d g'
  | c, [], g', d, h => by simp only [bst, Option.some.injEq] at h; subst h; rfl
  | c, b :: l, g', d, h => by
    simp only [bst] at h
    simp only [List.cons_append, bst]
    split at h
    · rename_i e; rw [if_pos e]; exact bst_app _ l g' d h
    · rename_i e
      rw [if_neg e]
      split at h
      · rename_i e2; rw [if_pos e2]; exact bst_app _ l g' d h
      · rename_i e2
        rw [if_neg e2]
        split at h
        · rename_i e3; rw [if_pos e3]; exact bst_app _ l g' d h
        · rename_i e3
          rw [if_neg e3]
          split at h
          · rename_i e4; rw [if_pos e4]; exact bst_app _ l g' d h
          · cases h
theorem bst_head {b : UInt8} {l : List UInt8} {d : Bool} (h : bst false (b :: l) = some d) : b = 10 ∨ b = 32 ∨ b = 35 := by
  simp only [bst] at h
  split at h
  · exact Or.inl ‹_›
  · split at h
    · rename_i h2; cases h2
    · split at h
      · exact Or.inr (Or.inl ‹_›)
      · split at h
        · exact Or.inr (Or.inr ‹_›)
        · cases h
def TokC (x : List UInt8) : Prop :=
  (∃ b r, x = b :: r ∧ isLetter b = true ∧ (∀ c ∈ r, isEither c = true) ∧ (b :: r).length ≤ 16) ∨ (∃ b, x = [b] ∧ isDigit b = true) ∨ x = [58] ∨ x = [44]
def Sep (R : List UInt8) : Prop := ∀ b r, R = b :: r → isEither b = false
theorem sep_blank {b : UInt8} {R : List UInt8} (h : b = 10 ∨ b = 32 ∨ b = 35 ∨ b = 58 ∨ b = 44) : Sep (b :: R) := by
  intro c r e
  cases e
  rcases h with rfl | rfl | rfl | rfl | rfl <;> decide
theorem takeWhile_all {p : UInt8 → Bool} : ∀ {r R : List UInt8}, (∀ c ∈ r, p c = true) → (∀ b r', R = b :: r' → p b = false) → (r ++ R).takeWhile p = r
  | [], [], _, _ => rfl
  | [], b :: R, _, h => by simp [h b R rfl]
  | c :: r, R, h1, h2 => by
    rw [List.cons_append, List.takeWhile_cons, if_pos (h1 c (.head _)), takeWhile_all (fun c hc => h1 c (.tail _ hc)) h2]
theorem letter_ne {b : UInt8} (h : isEither b = true) : b ≠ 10 ∧ b ≠ 32 ∧ b ≠ 35 := by
  refine ⟨?_, ?_, ?_⟩ <;> rintro rfl <;> revert h <;> decide
theorem either_of_letter {b : UInt8} (h : isLetter b = true) : isEither b = true := by simp [isEither, h]
theorem either_of_digit {b : UInt8} (h : isDigit b = true) : isEither b = true := by simp [isEither, h]
theorem digit_no_letter {b : UInt8} (h : isDigit b = true) : isLetter b = false := by
  simp only [isDigit, isLetter, Bool.and_eq_true, decide_eq_true_eq] at h ⊢
  have h1 : ¬ 97 ≤ b.toNat := by omega
  have h2 : ¬ 65 ≤ b.toNat := by omega
  simp [h1, h2]
theorem tokC_ne {x : List UInt8} (h : TokC x) : x ≠ [] := by
  rcases h with ⟨b, r, rfl, _⟩ | ⟨b, rfl, _⟩ | rfl | rfl <;> simp
theorem bl_no {b : UInt8} {R : List UInt8} (h : b ≠ 10 ∧ b ≠ 32 ∧ b ≠ 35) : bl false (b :: R) = 0 := by
  simp [bl, h.1, h.2.1, h.2.2]
theorem tokC_bl {x R : List UInt8} (h : TokC x) : bl false (x ++ R) = 0 := by
  rcases h with ⟨b, r, rfl, h1, _⟩ | ⟨b, rfl, h1⟩ | rfl | rfl
  · exact bl_no (letter_ne (either_of_letter h1))
  · exact bl_no (letter_ne (either_of_digit h1))
  · exact bl_no (by decide)
  · exact bl_no (by decide)
theorem sign58 (R : List UInt8) : tok (58 :: R) = 1 := by
  have h1 : isLetter 58 = false := by decide
  have h2 : isDigit 58 = false := by decide
  simp [tok, h1, h2, signsL, List.find?, Lib.hasPrefix, List.isPrefixOf]
theorem sign44 (R : List UInt8) : tok (44 :: R) = 1 := by
  have h1 : isLetter 44 = false := by decide
  have h2 : isDigit 44 = false := by decide
  simp [tok, h1, h2, signsL, List.find?, Lib.hasPrefix, List.isPrefixOf]
theorem tokC_tok {x R : List UInt8} (h : TokC x) (hs : Sep R ∨ x = [58] ∨ x = [44]) : tok (x ++ R) = x.length := by
  rcases h with ⟨b, r, rfl, h1, h2, h3⟩ | ⟨b, rfl, h1⟩ | rfl | rfl
  · have hs' : Sep R := by
      rcases hs with h | h | h
      · exact h
      · cases h; exact absurd h1 (by decide)
      · cases h; exact absurd h1 (by decide)
    have h4 : tok (b :: r ++ R) = short (1 + ((r ++ R).takeWhile isEither).length) := by simp [tok, h1]
    rw [h4, takeWhile_all h2 hs', short, List.length_cons]
    simp only [List.length_cons] at h3
    rw [if_neg (by omega)]; omega
  · have hs' : Sep R := by
      rcases hs with h | h | h
      · exact h
      · cases h; exact absurd h1 (by decide)
      · cases h; exact absurd h1 (by decide)
    have h0 := digit_no_letter h1
    have h4 : tok ([b] ++ R) = short (1 + (R.takeWhile isDigit).length) := by simp [tok, h1, h0]
    have h5 : ([] ++ R).takeWhile isDigit = [] := takeWhile_all (by simp) (fun c r' e => by
      have := hs' c r' e
      simp only [isEither, Bool.or_eq_false_iff] at this
      exact this.2)
    rw [List.nil_append] at h5
    rw [h4, h5]; rfl
  · exact sign58 R
  · exact sign44 R
def gtext : List (List UInt8 × List UInt8) → List UInt8 → List UInt8
  | [], t => t
  | (g, x) :: rest, t => g ++ (x ++ gtext rest t)
def tk (p : List UInt8 × List UInt8) : Tok := ⟨p.2, p.1⟩
structure Nice (gs : List (List UInt8 × List UInt8)) : Prop where
  all : ∀ p ∈ gs, TokC p.2 ∧ bst false p.1 = some false
  tl : ∀ p ∈ gs.tail, p.1 ≠ [] ∨ p.2 = [58] ∨ p.2 = [44]
theorem nice_sep {gs : List (List UInt8 × List UInt8)} {t : List UInt8} (h1 : ∀ p ∈ gs, TokC p.2 ∧ bst false p.1 = some false) (h2 : ∀ p ∈ gs, p.1 ≠ [] ∨ p.2 = [58] ∨ p.2 = [44]) (ht : ∃ d, bst false t = some d) : Sep (gtext gs t) := by
  cases gs with
  | nil =>
    cases t with
    | nil => intro b r h; cases h
    | cons b t =>
      obtain ⟨d, hd⟩ := ht
      refine sep_blank ?_
      rcases bst_head hd with h | h | h
      · exact Or.inl h
      · exact Or.inr (Or.inl h)
      · exact Or.inr (Or.inr (Or.inl h))
  | cons p gs =>
    obtain ⟨g, x⟩ := p
    have h1' := h1 _ (.head _)
    have h2' := h2 _ (.head _)
    simp only at h1' h2'
    cases g with
    | cons b g =>
      refine sep_blank ?_
      rcases bst_head h1'.2 with h | h | h
      · exact Or.inl h
      · exact Or.inr (Or.inl h)
      · exact Or.inr (Or.inr (Or.inl h))
    | nil =>
      rcases h2' with h | rfl | rfl
      · exact absurd rfl h
      · exact sep_blank (by simp)
      · exact sep_blank (by simp)
theorem scanN_nice {t : List UInt8} (ht : ∃ d, bst false t = some d) : ∀ (gs : List (List UInt8 × List UInt8)) (n p : Nat) (acc : List Tok), Nice gs → gs.length < n → scanN n (gtext gs t) p acc = (acc ++ gs.map tk, t, -1)
  | [], n + 1, p, acc, h, hn => by
    obtain ⟨d, hd⟩ := ht
    have h1 : bl false t = t.length := by
      have := bl_bst false t [] d hd
      simp only [List.append_nil] at this
      rw [this]; cases d <;> rfl
    simp [scanN, gtext, h1]
  | (g, x) :: gs, n + 1, p, acc, h, hn => by
    have h1 := h.all _ (.head _)
    simp only at h1
    have hb : bl false (g ++ (x ++ gtext gs t)) = g.length := by
      rw [bl_bst _ _ _ _ h1.2, tokC_bl h1.1]; rfl
    have hsep : Sep (gtext gs t) := nice_sep (fun p hp => h.all p (.tail _ hp)) (fun p hp => h.tl p hp) ht
    have ht2 : tok (x ++ gtext gs t) = x.length := tokC_tok h1.1 (Or.inl hsep)
    have hx := tokC_ne h1.1
    have hx2 : x.length ≠ 0 := fun e => hx (List.length_eq_zero_iff.1 e)
    have hne : x ++ gtext gs t ≠ [] := by simp [hx]
    have ih := scanN_nice ht gs n (p + g.length + x.length) (acc ++ [⟨x, g⟩]) ⟨fun p hp => h.all p (.tail _ hp), fun p hp => h.tl p (by cases gs with | nil => cases hp | cons q gs => exact .tail _ hp)⟩ (by simp at hn; omega)
    simp only [scanN, gtext, hb, List.drop_left, List.take_left, ht2, if_neg hne, if_neg hx2]
    rw [ih]
    simp [tk]
  | [], 0, p, acc, h, hn => by omega
  | _ :: _, 0, p, acc, h, hn => by omega
theorem gtext_len (t : List UInt8) : ∀ (gs : List (List UInt8 × List UInt8)), (∀ p ∈ gs, p.2 ≠ []) → gs.length ≤ (gtext gs t).length
  | [], _ => by simp
  | (g, x) :: gs, h => by
    have ih := gtext_len t gs (fun p hp => h p (.tail _ hp))
    have hx : x.length ≠ 0 := fun e => h _ (.head _) (List.length_eq_zero_iff.1 e)
    simp only [gtext, List.length_append, List.length_cons]; omega
theorem scan_nice {gs : List (List UInt8 × List UInt8)} {t : List UInt8} (ht : ∃ d, bst false t = some d) (h : Nice gs) (hl : (gtext gs t).length ≤ 8192) : scan (gtext gs t) = (gs.map tk, t, -1) := by
  have := gtext_len t gs (fun p hp => tokC_ne (h.all p hp).1)
  rw [scan, if_neg (by omega), scanN_nice ht gs _ _ _ h (by omega)]
  simp
end Go.Proofs.Tryd
set_option maxRecDepth 100000
set_option linter.unusedSimpArgs false
set_option linter.unusedVariables false
namespace Go.Proofs.Tryd
open Go Go.DL
def runT : List (List UInt8) → PS → Option PS
  | [], p => some p
  | t :: l, p => if (refStep p t).2 then runT l (refStep p t).1 else none
theorem refRun_fst : ∀ (ts : List Tok) (p : PS) (a : Nat), (refRun ts p a).1 = runT (ts.map (·.text)) p
  | [], p, a => rfl
  | t :: l, p, a => by
    simp only [refRun, List.map_cons, runT]
    split
    · exact refRun_fst l _ _
    · rfl
def finT : Option PS → Option (List Rule)
  | none => none
  | some p => if p.st = .what then some p.out else if p.st = .more ∧ p.r.n ≤ (p.r.who.length : Int) then some (p.out ++ [p.r]) else none
theorem refEnd_some {n : Nat} {x : Option PS × Nat} {y : List Rule} (h : finT x.1 = some y) : refEnd n x = (y, -1) := by
  obtain ⟨o, a⟩ := x
  cases o with
  | none => cases h
  | some p =>
    simp only [finT] at h
    simp only [refEnd]
    split at h
    · cases h; rename_i e; rw [if_pos e]
    · rename_i e
      rw [if_neg e]
      split at h
      · cases h; rename_i e2; rw [if_pos e2]
      · cases h
theorem refEnd_none {n : Nat} {x : Option PS × Nat} (h : finT x.1 = none) : (refEnd n x).1 = [] ∧ 0 ≤ (refEnd n x).2 := by
  obtain ⟨o, a⟩ := x
  cases o with
  | none => exact ⟨rfl, by show (0 : Int) ≤ (a : Int); omega⟩
  | some p =>
    simp only [finT] at h
    simp only [refEnd]
    split at h
    · cases h
    · rename_i e
      rw [if_neg e]
      split at h
      · cases h
      · rename_i e2; rw [if_neg e2]; exact ⟨rfl, by show (0 : Int) ≤ (n : Int); omega⟩
def whoT : List Int → List (List UInt8)
  | [] => []
  | w :: ws => digitS w :: ws.flatMap fun x => [[44], digitS x]
def modT (r : Rule) : List (List UInt8) := if bl8 r.mod = [] then [] else [[105, 110], bl8 r.mod]
def headT (r : Rule) : List (List UInt8) := bl8 r.what :: (modT r ++ [[58], digitS r.n, [111, 102]])
def ruleT (r : Rule) : List (List UInt8) := headT r ++ whoT r.who
def rulesT (l : List Rule) : List (List UInt8) := l.flatMap ruleT
theorem whoT_snoc (who : List Int) (n : Int) : whoT (who ++ [n]) = whoT who ++ ((if who = [] then [] else [[44]]) ++ [digitS n]) := by
  cases who with
  | nil => rfl
  | cons w ws => simp [whoT]
theorem rulesT_snoc (l : List Rule) (r : Rule) : rulesT (l ++ [r]) = rulesT l ++ ruleT r := by simp [rulesT]
theorem whoOk_snoc {who : List Int} {n : Int} : whoOk (who ++ [n]) = true ↔ whoOk who = true ∧ 0 ≤ n ∧ n ≤ 7 ∧ (who = [] ∨ who.getD (who.length - 1) 0 < n) := by
  simp only [whoOk, List.all_eq_true, List.mem_range, List.length_append, List.length_cons, List.length_nil]
  have key : ∀ j, j < who.length → whoAt (who ++ [n]) j = whoAt who j := by
    intro j hj
    have e1 : (who ++ [n]).getD j 0 = who.getD j 0 := by simp [List.getD, List.getElem?_append_left hj]
    have e2 : (who ++ [n]).getD (j - 1) 0 = who.getD (j - 1) 0 := by simp [List.getD, List.getElem?_append_left (show j - 1 < who.length by omega)]
    simp only [whoAt, e1, e2]
  have last : whoAt (who ++ [n]) who.length = true ↔ 0 ≤ n ∧ n ≤ 7 ∧ (who = [] ∨ who.getD (who.length - 1) 0 < n) := by
    have e1 : (who ++ [n]).getD who.length 0 = n := by simp [List.getD]
    simp only [whoAt, e1, Bool.and_eq_true, Bool.or_eq_true, decide_eq_true_eq, beq_iff_eq]
    cases who with
    | nil => simp [and_assoc]
    | cons w ws =>
      have e2 : ((w :: ws) ++ [n]).getD ((w :: ws).length - 1) 0 = (w :: ws).getD ((w :: ws).length - 1) 0 := by
        rw [List.getD_eq_getElem?_getD, List.getD_eq_getElem?_getD, List.getElem?_append_left (by simp)]
      rw [e2]
      simp [and_assoc]
  constructor
  · intro h
    exact ⟨fun j hj => by rw [← key j hj]; exact h j (by omega), last.1 (h who.length (by omega))⟩
  · rintro ⟨h1, h2⟩ j hj
    by_cases c : j < who.length
    · rw [key j c]; exact h1 j c
    · have : j = who.length := by omega
      rw [this]; exact last.2 h2
def partT (p : PS) : List (List UInt8) :=
  match p.st with
  | .what => []
  | .inn => [bl8 p.r.what]
  | .name => [bl8 p.r.what, [105, 110]]
  | .colon => [bl8 p.r.what, [105, 110], bl8 p.r.mod]
  | .count => bl8 p.r.what :: (modT p.r ++ [[58]])
  | .of_ => bl8 p.r.what :: (modT p.r ++ [[58], digitS p.r.n])
  | .who => headT p.r ++ (whoT p.r.who ++ if p.r.who = [] then [] else [[44]])
  | .more => headT p.r ++ whoT p.r.who
def allT (p : PS) : List (List UInt8) := rulesT p.out ++ partT p
def rInv (st : St) (r : Rule) : Prop :=
  match st with
  | .what => True
  | .inn => whatsL.contains (bl8 r.what) = true ∧ bl8 r.mod = [] ∧ r.who = []
  | .name => whatsL.contains (bl8 r.what) = true ∧ bl8 r.mod = [] ∧ r.who = []
  | .colon => whatsL.contains (bl8 r.what) = true ∧ isWord kwL (bl8 r.mod) = true ∧ r.who = []
  | .count => whatsL.contains (bl8 r.what) = true ∧ (bl8 r.mod = [] ∨ isWord kwL (bl8 r.mod) = true) ∧ r.who = []
  | .of_ => whatsL.contains (bl8 r.what) = true ∧ (bl8 r.mod = [] ∨ isWord kwL (bl8 r.mod) = true) ∧ r.who = [] ∧ 1 ≤ r.n ∧ r.n ≤ 8
  | .who => whatsL.contains (bl8 r.what) = true ∧ (bl8 r.mod = [] ∨ isWord kwL (bl8 r.mod) = true) ∧ whoOk r.who = true ∧ 1 ≤ r.n
  | .more => whatsL.contains (bl8 r.what) = true ∧ (bl8 r.mod = [] ∨ isWord kwL (bl8 r.mod) = true) ∧ whoOk r.who = true ∧ 1 ≤ r.n ∧ r.who ≠ []
structure PInv (p : PS) : Prop where
  out : ∀ r ∈ p.out, ruleOk r = true
  len : p.out.length ≤ 64
  lt : p.st ≠ .what → p.out.length < 64
  r : rInv p.st p.r
theorem digit_of {t : List UInt8} (h : 0 ≤ numberF t) : t = digitS (numberF t) := by
  obtain ⟨n, hn, rfl⟩ := numberF_is h
  rw [numberF_digit n hn]; rfl
theorem word_ne {s : List UInt8} (h : isWord kwL s = true) : s ≠ [] := (isWord_len h).2
theorem step_pre {p : PS} {t : List UInt8} (h : PInv p) : PInv (p.pre t) ∧ allT (p.pre t) = allT p ∧ ((p.pre t).st = .more → ¬ (p.pre t).again t = true) := by
  unfold PS.pre
  by_cases e : p.again t = true
  · rw [if_pos e]
    simp only [PS.again, Bool.and_eq_true, decide_eq_true_eq] at e
    obtain ⟨⟨e1, e2⟩, e3⟩ := e
    have hr := h.r
    rw [e1] at hr
    simp only [rInv] at hr
    obtain ⟨r1, r2, r3, r4, r5⟩ := hr
    have hlt := h.lt (by rw [e1]; decide)
    refine ⟨⟨?_, by simp; omega, fun q => absurd rfl q, trivial⟩, ?_, fun q => by cases q⟩
    · intro r hm
      rcases List.mem_append.1 hm with hm | hm
      · exact h.out r hm
      · have := List.mem_singleton.1 hm
        subst this
        exact fine_ok ⟨r1, r2, r4, e3, r3⟩
    · simp only [allT, rulesT_snoc, partT, e1, List.append_nil, ruleT]
  · rw [if_neg e]
    exact ⟨h, rfl, fun _ => e⟩
theorem step_ok {p : PS} {t : List UInt8} (h0 : PInv p) (hs : (refStep p t).2 = true) : PInv (refStep p t).1 ∧ allT (refStep p t).1 = allT p ++ [t] := by
  obtain ⟨h, ha, hm⟩ := step_pre (t := t) h0
  rw [← ha]
  obtain ⟨q, hq⟩ : ∃ q, p.pre t = q := ⟨_, rfl⟩
  simp only [refStep] at hs ⊢
  rw [hq] at hs h hm ⊢
  obtain ⟨out, r, st⟩ := q
  obtain ⟨h1, h2, h3, h4⟩ := h
  simp only at h1 h2 h3 h4 hs hm ⊢
  cases st with
  | what =>
    simp only [Bool.and_eq_true, decide_eq_true_eq] at hs ⊢
    refine ⟨⟨h1, h2, fun _ => hs.2, ?_⟩, ?_⟩
    · exact ⟨by rw [bl8_str]; exact hs.1, bl8_str [], rfl⟩
    · simp [allT, partT, bl8_str]
  | inn =>
    have hlt := h3 (by simp)
    simp only [rInv] at h4
    simp only [Bool.or_eq_true, beq_iff_eq] at hs ⊢
    rcases hs with rfl | rfl
    · refine ⟨⟨h1, h2, fun _ => hlt, ?_⟩, ?_⟩
      · simp only [if_pos]; exact h4
      · simp [allT, partT]
    · have hne : ([58] : List UInt8) ≠ [105, 110] := by decide
      simp only [if_neg hne]
      refine ⟨⟨h1, h2, fun _ => hlt, ?_⟩, ?_⟩
      · exact ⟨h4.1, Or.inl h4.2.1, h4.2.2⟩
      · simp [allT, partT, modT, h4.2.1]
  | name =>
    have hlt := h3 (by simp)
    simp only [rInv] at h4
    refine ⟨⟨h1, h2, fun _ => hlt, ?_⟩, ?_⟩
    · simp only [rInv, bl8_str]; exact ⟨h4.1, hs, h4.2.2⟩
    · simp [allT, partT, bl8_str]
  | colon =>
    have hlt := h3 (by simp)
    simp only [rInv] at h4
    simp only [beq_iff_eq] at hs
    subst hs
    refine ⟨⟨h1, h2, fun _ => hlt, ?_⟩, ?_⟩
    · exact ⟨h4.1, Or.inr h4.2.1, h4.2.2⟩
    · have := word_ne h4.2.1
      simp [allT, partT, modT, this]
  | count =>
    have hlt := h3 (by simp)
    simp only [rInv] at h4
    simp only [Bool.and_eq_true, decide_eq_true_eq] at hs
    refine ⟨⟨h1, h2, fun _ => hlt, ?_⟩, ?_⟩
    · exact ⟨h4.1, h4.2.1, h4.2.2, hs.1, hs.2⟩
    · have := digit_of (t := t) (by omega)
      simp [allT, partT, modT, ← this]
  | of_ =>
    have hlt := h3 (by simp)
    simp only [rInv] at h4
    simp only [beq_iff_eq] at hs
    subst hs
    refine ⟨⟨h1, h2, fun _ => hlt, ?_⟩, ?_⟩
    · exact ⟨h4.1, h4.2.1, by rw [h4.2.2.1]; rfl, h4.2.2.2.1⟩
    · simp [allT, partT, headT, h4.2.2.1, whoT]
  | who =>
    have hlt := h3 (by simp)
    simp only [rInv] at h4
    simp only [Bool.and_eq_true, Bool.or_eq_true, decide_eq_true_eq, beq_iff_eq, List.length_eq_zero_iff] at hs
    refine ⟨⟨h1, h2, fun _ => hlt, ?_⟩, ?_⟩
    · exact ⟨h4.1, h4.2.1, whoOk_snoc.2 ⟨h4.2.2.1, hs.1.1, hs.1.2, hs.2⟩, h4.2.2.2, by simp⟩
    · have := digit_of (t := t) (by omega)
      have hh : headT { r with who := r.who ++ [numberF t] } = headT r := rfl
      simp only [allT, partT, hh, whoT_snoc, ← this, List.append_assoc]
  | more =>
    have hlt := h3 (by simp)
    simp only [rInv] at h4
    simp only [beq_iff_eq] at hs
    subst hs
    refine ⟨⟨h1, h2, fun _ => hlt, ?_⟩, ?_⟩
    · exact ⟨h4.1, h4.2.1, h4.2.2.1, h4.2.2.2.1⟩
    · simp [allT, partT, h4.2.2.2.2]
theorem runT_ok : ∀ (ts : List (List UInt8)) (p q : PS), PInv p → runT ts p = some q → PInv q ∧ allT q = allT p ++ ts
  | [], p, q, h, hr => by cases hr; exact ⟨h, by simp⟩
  | t :: ts, p, q, h, hr => by
    simp only [runT] at hr
    split at hr
    · rename_i e
      obtain ⟨k1, k2⟩ := step_ok h e
      obtain ⟨j1, j2⟩ := runT_ok ts _ q k1 hr
      exact ⟨j1, by rw [j2, k2]; simp⟩
    · cases hr
def start : PS := ⟨[], ⟨str [], str [], 0, []⟩, .what⟩
theorem start_inv : PInv start := ⟨by simp [start], by simp [start], fun h => absurd rfl h, trivial⟩
theorem fin_ok {p : PS} {y : List Rule} (h : PInv p) (hf : finT (some p) = some y) : validF y = true ∧ rulesT y = allT p := by
  simp only [finT] at hf
  split at hf
  · rename_i e
    cases hf
    refine ⟨?_, ?_⟩
    · simp only [validF, Bool.and_eq_true, List.all_eq_true, decide_eq_true_eq]; exact ⟨h.out, h.len⟩
    · simp [allT, partT, e]
  · split at hf
    · rename_i e1 e
      cases hf
      have hr := h.r
      have hlt := h.lt e1
      rw [e.1] at hr
      simp only [rInv] at hr
      refine ⟨?_, ?_⟩
      · simp only [validF, Bool.and_eq_true, List.all_eq_true, decide_eq_true_eq]
        refine ⟨?_, by simp; omega⟩
        intro r hm
        rcases List.mem_append.1 hm with hm | hm
        · exact h.out r hm
        · have := List.mem_singleton.1 hm
          subst this
          exact fine_ok ⟨hr.1, hr.2.1, hr.2.2.2.1, e.2, hr.2.2.1⟩
      · simp only [allT, partT, e.1, rulesT_snoc, ruleT]
    · cases hf
theorem refP_sound {l : List UInt8} {y : List Rule} (h : refP l = (y, -1)) : validF y = true := by
  unfold refP at h
  split at h
  · rename_i e
    simp only [Prod.mk.injEq] at h
    exact absurd h.2 e
  · cases hf : finT (refRun (scan l).1 ⟨[], ⟨str [], str [], 0, []⟩, .what⟩ 0).1 with
    | none =>
      have := refEnd_none (n := l.length) hf
      rw [h] at this
      exact absurd (show (0 : Int) ≤ -1 from this.2) (by decide)
    | some z =>
      have := refEnd_some (n := l.length) hf
      rw [h] at this
      cases this
      rw [refRun_fst] at hf
      cases hr : runT ((scan l).1.map (·.text)) start with
      | none => rw [show (⟨[], ⟨str [], str [], 0, []⟩, .what⟩ : PS) = start from rfl, hr] at hf; cases hf
      | some q =>
        rw [show (⟨[], ⟨str [], str [], 0, []⟩, .what⟩ : PS) = start from rfl, hr] at hf
        exact (fin_ok (runT_ok _ _ _ start_inv hr).1 hf).1
theorem scanN_neg : ∀ (n : Nat) (r : List UInt8) (p : Nat) (acc : List Tok), (scanN n r p acc).2.2 = -1 ∨ 0 ≤ (scanN n r p acc).2.2
  | 0, r, p, acc => Or.inr (by simp [scanN])
  | n + 1, r, p, acc => by
    simp only [scanN]
    split
    · exact Or.inl rfl
    · split
      · exact Or.inr (by simp; omega)
      · exact scanN_neg n _ _ _
theorem scan_neg (l : List UInt8) : (scan l).2.2 = -1 ∨ 0 ≤ (scan l).2.2 := by
  unfold scan
  split
  · exact Or.inr (by decide)
  · exact scanN_neg _ _ _ _
theorem refP_no {l : List UInt8} (h : (refP l).2 ≠ -1) : (refP l).1 = [] ∧ 0 ≤ (refP l).2 := by
  unfold refP at h ⊢
  split
  · rename_i e
    refine ⟨rfl, ?_⟩
    rcases scan_neg l with h | h
    · exact absurd h e
    · exact h
  · rename_i e
    rw [if_neg e] at h
    cases hf : finT (refRun (scan l).1 ⟨[], ⟨str [], str [], 0, []⟩, .what⟩ 0).1 with
    | none => exact refEnd_none hf
    | some z => rw [refEnd_some hf] at h; exact absurd rfl h
end Go.Proofs.Tryd
set_option maxRecDepth 100000
set_option linter.unusedSimpArgs false
set_option linter.unusedVariables false
namespace Go.Proofs.Tryd
open Go Go.DL
theorem runT_app : ∀ (a b : List (List UInt8)) (p : PS), runT (a ++ b) p = (runT a p).bind (runT b)
  | [], b, p => rfl
  | t :: a, b, p => by
    simp only [List.cons_append, runT]
    split
    · exact runT_app a b _
    · rfl
theorem numberF_dig {n : Int} (h0 : 0 ≤ n) (h1 : n ≤ 9) : numberF (digitS n) = n := by
  have := numberF_digit n.toNat (by omega)
  rw [digitS]
  rw [this]; omega
def outsOf (p : PS) : List Rule := if p.st = .more then p.out ++ [p.r] else p.out
def ready (p : PS) : Prop := p.st = .what ∨ (p.st = .more ∧ p.r.n ≤ (p.r.who.length : Int))
theorem pre_ready {p : PS} {t : List UInt8} (h : ready p) (ht : t ≠ [44]) : (p.pre t).st = .what ∧ (p.pre t).out = outsOf p := by
  rcases h with h | ⟨h1, h2⟩
  · have : p.again t = false := by simp [PS.again, h]
    simp [PS.pre, this, h, outsOf]
  · have : p.again t = true := by simp [PS.again, h1, h2, ht]
    simp [PS.pre, this, outsOf, h1]
theorem pre_id {p : PS} {t : List UInt8} (h : p.st ≠ .more ∨ t = [44]) : p.pre t = p := by
  have : p.again t = false := by
    rcases h with h | h
    · simp [PS.again, h]
    · simp [PS.again, h]
  simp [PS.pre, this]
theorem whoOk_pre : ∀ (b a : List Int), whoOk (a ++ b) = true → whoOk a = true
  | [], a, h => by simpa using h
  | x :: b, a, h => (whoOk_snoc.1 (whoOk_pre b (a ++ [x]) (by simpa using h))).1
theorem run_who : ∀ (xs : List Int) (out : List Rule) (w m : ByteArray) (n : Int) (ws : List Int), ws ≠ [] → whoOk (ws ++ xs) = true →
    runT (xs.flatMap fun x => [[44], digitS x]) ⟨out, ⟨w, m, n, ws⟩, .more⟩ = some ⟨out, ⟨w, m, n, ws ++ xs⟩, .more⟩
  | [], out, w, m, n, ws, hw, h => by simp [runT]
  | x :: xs, out, w, m, n, ws, hw, h => by
    have h1 : whoOk ((ws ++ [x]) ++ xs) = true := by simpa using h
    have h2 : whoOk (ws ++ [x]) = true := whoOk_pre xs _ h1
    obtain ⟨k1, k2, k3, k4⟩ := whoOk_snoc.1 h2
    have k4' := k4.resolve_left hw
    have ih := run_who xs out w m n (ws ++ [x]) (by simp) h1
    simp only [List.flatMap_cons, List.cons_append, List.nil_append, runT]
    have e1 : refStep ⟨out, ⟨w, m, n, ws⟩, .more⟩ [44] = (⟨out, ⟨w, m, n, ws⟩, .who⟩, true) := by
      simp only [refStep, pre_id (p := ⟨out, ⟨w, m, n, ws⟩, .more⟩) (t := [44]) (Or.inr rfl)]; rfl
    rw [e1]
    simp only [if_true]
    have e2 : refStep ⟨out, ⟨w, m, n, ws⟩, .who⟩ (digitS x) = (⟨out, ⟨w, m, n, ws ++ [x]⟩, .more⟩, true) := by
      simp only [refStep, pre_id (p := ⟨out, ⟨w, m, n, ws⟩, .who⟩) (t := digitS x) (Or.inl (by simp)), numberF_dig k2 (by omega)]
      have k5 : (ws.length == 0 || decide (ws.getD (ws.length - 1) 0 < x)) = true := by rw [decide_eq_true k4', Bool.or_true]
      rw [k5, decide_eq_true k2, decide_eq_true k3]; rfl
    rw [e2]
    simp only [if_true]
    rw [ih]; simp
theorem whats_comma {s : List UInt8} (h : whatsL.contains s = true) : s ≠ [44] := by
  rintro rfl; revert h; decide
theorem run_rule {p : PS} {r : Rule} (hp : ready p) (hl : (outsOf p).length < 64) (h : Fine r) : runT (ruleT r) p = some ⟨outsOf p, r, .more⟩ := by
  obtain ⟨w, m, n, who⟩ := r
  obtain ⟨h1, h2, h3, h4, h5⟩ := h
  simp only at h1 h2 h3 h4 h5
  have hw8 := whoOk_len h5
  have e0 : refStep p (bl8 w) = (⟨outsOf p, ⟨w, str [], 0, []⟩, .inn⟩, true) := by
    obtain ⟨q1, q2⟩ := pre_ready hp (whats_comma h1)
    simp only [refStep, q1, q2, h1, str_bl8]
    simp [hl]
  have hwho : ∀ o : List Rule, ∀ mm : ByteArray, runT (whoT who) ⟨o, ⟨w, mm, n, []⟩, .who⟩ = some ⟨o, ⟨w, mm, n, who⟩, .more⟩ := by
    intro o mm
    cases who with
    | nil => simp at h4; omega
    | cons x xs =>
      have k : whoOk ([] ++ [x]) = true := whoOk_pre xs [x] (by simpa using h5)
      obtain ⟨k1, k2, k3, k4⟩ := whoOk_snoc.1 k
      have e2 : refStep ⟨o, ⟨w, mm, n, []⟩, .who⟩ (digitS x) = (⟨o, ⟨w, mm, n, [x]⟩, .more⟩, true) := by
        simp only [refStep, pre_id (p := ⟨o, ⟨w, mm, n, []⟩, .who⟩) (t := digitS x) (Or.inl (by simp)), numberF_dig k2 (by omega)]
        simp [k2, k3]
      simp only [whoT, runT, e2, if_true]
      exact run_who xs o w mm n [x] (by simp) (by simpa using h5)
  have tail : ∀ o : List Rule, ∀ mm : ByteArray, runT ([[58], digitS n, [111, 102]] ++ whoT who) ⟨o, ⟨w, mm, 0, []⟩, .colon⟩ = some ⟨o, ⟨w, mm, n, who⟩, .more⟩ := by
    intro o mm
    have a1 : refStep ⟨o, ⟨w, mm, 0, []⟩, .colon⟩ [58] = (⟨o, ⟨w, mm, 0, []⟩, .count⟩, true) := by
      simp only [refStep, pre_id (p := ⟨o, ⟨w, mm, 0, []⟩, .colon⟩) (t := [58]) (Or.inl (by simp))]; rfl
    have a2 : refStep ⟨o, ⟨w, mm, 0, []⟩, .count⟩ (digitS n) = (⟨o, ⟨w, mm, n, []⟩, .of_⟩, true) := by
      simp only [refStep, pre_id (p := ⟨o, ⟨w, mm, 0, []⟩, .count⟩) (t := digitS n) (Or.inl (by simp)), numberF_dig (n := n) (by omega) (by omega)]
      simp; omega
    have a3 : refStep ⟨o, ⟨w, mm, n, []⟩, .of_⟩ [111, 102] = (⟨o, ⟨w, mm, n, []⟩, .who⟩, true) := by
      simp only [refStep, pre_id (p := ⟨o, ⟨w, mm, n, []⟩, .of_⟩) (t := [111, 102]) (Or.inl (by simp))]; rfl
    simp only [List.cons_append, List.nil_append, runT, a1, a2, a3, if_true]
    exact hwho o mm
  simp only [ruleT, headT, List.cons_append, runT, e0, if_true]
  rw [List.append_assoc]
  unfold modT
  rcases h2 with h2 | h2
  · simp only [h2, if_true]
    have hm : m = str [] := by rw [← str_bl8 m, h2]
    subst hm
    have a1 : refStep ⟨outsOf p, ⟨w, str [], 0, []⟩, .inn⟩ [58] = refStep ⟨outsOf p, ⟨w, str [], 0, []⟩, .colon⟩ [58] := by
      simp only [refStep, pre_id (p := ⟨outsOf p, ⟨w, str [], 0, []⟩, .colon⟩) (t := [58]) (Or.inl (by simp)), pre_id (p := ⟨outsOf p, ⟨w, str [], 0, []⟩, .inn⟩) (t := [58]) (Or.inl (by simp))]
      rfl
    have := tail (outsOf p) (str [])
    simp only [List.cons_append, List.nil_append, runT] at this
    simp only [h2, if_true, List.cons_append, List.nil_append, runT]
    rw [a1]
    exact this
  · have hne := word_ne h2
    simp only [if_neg hne]
    have a1 : refStep ⟨outsOf p, ⟨w, str [], 0, []⟩, .inn⟩ [105, 110] = (⟨outsOf p, ⟨w, str [], 0, []⟩, .name⟩, true) := by
      simp only [refStep, pre_id (p := ⟨outsOf p, ⟨w, str [], 0, []⟩, .inn⟩) (t := [105, 110]) (Or.inl (by simp))]; rfl
    have a2 : refStep ⟨outsOf p, ⟨w, str [], 0, []⟩, .name⟩ (bl8 m) = (⟨outsOf p, ⟨w, m, 0, []⟩, .colon⟩, true) := by
      simp only [refStep, pre_id (p := ⟨outsOf p, ⟨w, str [], 0, []⟩, .name⟩) (t := bl8 m) (Or.inl (by simp)), h2, str_bl8]
    simp only [List.cons_append, List.nil_append, runT, a1, a2, if_true]
    exact tail (outsOf p) m
theorem run_rules : ∀ (l : List Rule) (p : PS), ready p → (outsOf p).length + l.length ≤ 64 → (∀ r ∈ l, Fine r) → ∃ q, runT (rulesT l) p = some q ∧ ready q ∧ outsOf q = outsOf p ++ l
  | [], p, hp, _, _ => ⟨p, rfl, hp, by simp⟩
  | r :: l, p, hp, hl, h => by
    simp only [List.length_cons] at hl
    have hr := h r (.head _)
    have h1 := run_rule hp (by omega) hr
    have hn : ready ⟨outsOf p, r, .more⟩ := Or.inr ⟨rfl, hr.n2⟩
    have ho : outsOf ⟨outsOf p, r, .more⟩ = outsOf p ++ [r] := by simp [outsOf]
    obtain ⟨q, h2, h3, h4⟩ := run_rules l ⟨outsOf p, r, .more⟩ hn (by rw [ho]; simp; omega) (fun r hr => h r (.tail _ hr))
    refine ⟨q, ?_, h3, by rw [h4, ho]; simp⟩
    rw [show rulesT (r :: l) = ruleT r ++ rulesT l from rfl, runT_app, h1]
    exact h2
theorem fin_ready {q : PS} (h : ready q) : finT (some q) = some (outsOf q) := by
  simp only [finT]
  rcases h with h | ⟨h1, h2⟩
  · simp [h, outsOf]
  · simp [h1, h2, outsOf]
theorem refP_tokens {l : List UInt8} {ts : List Tok} {t : List UInt8} {y : List Rule} (hs : scan l = (ts, t, -1)) (ht : ts.map (·.text) = rulesT y) (hv : validF y = true) : refP l = (y, -1) := by
  obtain ⟨hf, hl⟩ := validF_fine hv
  obtain ⟨q, h1, h2, h3⟩ := run_rules y start (Or.inl rfl) (by simp [outsOf, start]; omega) hf
  unfold refP
  rw [hs]
  rw [if_neg (by simp)]
  apply refEnd_some
  rw [refRun_fst, ht, show (⟨[], ⟨str [], str [], 0, []⟩, .what⟩ : PS) = start from rfl, h1, fin_ready h2, h3]
  rfl
def gsWho (who : List Int) (k : Nat) : List (List UInt8 × List UInt8) := (List.range k).flatMap fun i => (if i = 0 then [] else [([], [44])]) ++ [([32], digitS (who.getD i 0))]
def gsRule (g : List UInt8) (r : Rule) : List (List UInt8 × List UInt8) :=
  (g, bl8 r.what) :: ((if bl8 r.mod = [] then [] else [([32], [105, 110]), ([32], bl8 r.mod)]) ++ ([([], [58]), ([32], digitS r.n), ([32], [111, 102])] ++ gsWho r.who r.who.length))
def gsRules : List UInt8 → List Rule → List (List UInt8 × List UInt8)
  | _, [] => []
  | g, r :: l => gsRule g r ++ gsRules [10] l
theorem gtext_app (t : List UInt8) : ∀ a b : List (List UInt8 × List UInt8), gtext (a ++ b) t = gtext a (gtext b t)
  | [], b => rfl
  | (g, x) :: a, b => by simp [gtext, gtext_app t a b]
theorem gsWho_succ (who : List Int) (k : Nat) : gsWho who (k + 1) = gsWho who k ++ ((if k = 0 then [] else [([], [44])]) ++ [([32], digitS (who.getD k 0))]) := by
  simp [gsWho, List.range_succ]
theorem gsWho_text (who : List Int) (t : List UInt8) : ∀ k, gtext (gsWho who k) t = whoTxt who k ++ t
  | 0 => rfl
  | k + 1 => by
    rw [gsWho_succ, gtext_app, whoTxt_succ, gsWho_text who _ k]
    by_cases c : k = 0 <;> simp [c, gtext]
theorem gsRule_text (g : List UInt8) (r : Rule) (t : List UInt8) : gtext (gsRule g r) t = g ++ (ruleHead r ++ (whoTxt r.who r.who.length ++ t)) := by
  by_cases c : bl8 r.mod = [] <;> simp [gsRule, gtext, gtext_app, gsWho_text, ruleHead, c]
theorem gsRules_text : ∀ (l : List Rule) (g : List UInt8), l ≠ [] → gtext (gsRules g l) [10] = g ++ rulesTxt l
  | [r], g, _ => by simp [gsRules, gsRule_text, rulesTxt, ruleTxt]
  | r :: r' :: l, g, _ => by
    have ih := gsRules_text (r' :: l) [10] (by simp)
    rw [gsRules, gtext_app, ih, gsRule_text]
    simp [rulesTxt, ruleTxt]
theorem gsWho_snd (who : List Int) : ∀ k, k ≤ who.length → (gsWho who k).map (·.2) = whoT (who.take k)
  | 0, _ => rfl
  | k + 1, h => by
    have hg : who.getD k 0 = who[k] := by simp [List.getD, (show k < who.length by omega)]
    rw [gsWho_succ, List.map_append, gsWho_snd who k (by omega), ← List.take_append_getElem (show k < who.length by omega), whoT_snoc, hg]
    cases k with
    | zero => simp
    | succ k =>
      cases who with
      | nil => simp at h
      | cons w ws => simp
theorem gsRules_snd : ∀ (l : List Rule) (g : List UInt8), (gsRules g l).map (·.2) = rulesT l
  | [], g => rfl
  | r :: l, g => by
    have := gsWho_snd r.who r.who.length (Nat.le_refl _)
    rw [List.take_length] at this
    by_cases c : bl8 r.mod = [] <;> simp [gsRules, gsRule, rulesT, ruleT, headT, modT, c, this, gsRules_snd l] <;> rfl
theorem mem_tw (p : UInt8 → Bool) : ∀ (l : List UInt8) (c : UInt8), c ∈ l.takeWhile p → p c = true
  | [], c, h => by cases h
  | b :: l, c, h => by
    rw [List.takeWhile_cons] at h
    split at h
    · rename_i e
      cases h with
      | head => exact e
      | tail _ h => exact mem_tw p l c h
    · cases h
theorem word_tokC {s : List UInt8} (h : isWord kwL s = true) : TokC s := by
  cases s with
  | nil => cases h
  | cons b r =>
    simp only [isWord, Bool.and_eq_true, beq_iff_eq] at h
    obtain ⟨⟨h1, h2⟩, -⟩ := h
    have htk : tok (b :: r) = short (1 + (r.takeWhile isEither).length) := by simp [tok, h1]
    rw [htk, short, List.length_cons] at h2
    split at h2
    · omega
    · rename_i h16
      have hlen : (r.takeWhile isEither).length = r.length := by omega
      have hall : r.takeWhile isEither = r := (List.takeWhile_sublist _).eq_of_length hlen
      refine Or.inl ⟨b, r, rfl, h1, ?_, by simp; omega⟩
      intro c hc
      rw [← hall] at hc
      exact mem_tw _ r c hc
theorem what_tokC {s : List UInt8} (h : whatsL.contains s = true) : TokC s := by
  rw [List.contains_iff_mem] at h
  simp only [whatsL, List.mem_cons, List.not_mem_nil, or_false] at h
  have key : ∀ x : List UInt8, isWord kwL x = true → TokC x := fun x => word_tokC
  rcases h with rfl | rfl | rfl | rfl | rfl | rfl | rfl <;> refine Or.inl ⟨_, _, rfl, by decide, by decide, by decide⟩
theorem dig_tokC {n : Int} (h0 : 0 ≤ n) (h1 : n ≤ 9) : TokC (digitS n) := by
  refine Or.inr (Or.inl ⟨_, rfl, ?_⟩)
  have : n.toNat < 10 := by omega
  have key : ∀ k : Nat, k < 10 → isDigit (UInt8.ofNat (48 + k)) = true := by decide
  exact key _ this
def sgn (p : List UInt8 × List UInt8) : Prop := p.1 ≠ [] ∨ p.2 = [58] ∨ p.2 = [44]
theorem gsWho_nice {who : List Int} (h : whoOk who = true) : ∀ k, k ≤ who.length → ∀ p ∈ gsWho who k, (TokC p.2 ∧ bst false p.1 = some false) ∧ sgn p
  | 0, _, p, hp => by simp [gsWho] at hp
  | k + 1, hk, p, hp => by
    rw [gsWho_succ] at hp
    rcases List.mem_append.1 hp with hp | hp
    · exact gsWho_nice h k (by omega) p hp
    · have hw := whoOk_at h (show k < who.length by omega)
      rcases List.mem_append.1 hp with hp | hp
      · split at hp
        · cases hp
        · have := List.mem_singleton.1 hp
          subst this
          exact ⟨⟨Or.inr (Or.inr (Or.inr rfl)), rfl⟩, Or.inr (Or.inr rfl)⟩
      · have := List.mem_singleton.1 hp
        subst this
        exact ⟨⟨dig_tokC hw.1 (by omega), rfl⟩, Or.inl (by simp)⟩
theorem gsRule_nice {g : List UInt8} (hg : bst false g = some false) {r : Rule} (h : Fine r) : (∀ p ∈ gsRule g r, TokC p.2 ∧ bst false p.1 = some false) ∧ (∀ p ∈ (gsRule g r).tail, sgn p) ∧ (g ≠ [] → ∀ p ∈ gsRule g r, sgn p) := by
  have h8 := whoOk_len h.who
  have key : ∀ p ∈ (gsRule g r).tail, (TokC p.2 ∧ bst false p.1 = some false) ∧ sgn p := by
    intro p hp
    simp only [gsRule, List.tail_cons] at hp
    rcases List.mem_append.1 hp with hp | hp
    · split at hp
      · cases hp
      · rename_i e
        have hw := h.mod.resolve_left e
        simp only [List.mem_cons, List.not_mem_nil, or_false] at hp
        rcases hp with rfl | rfl
        · exact ⟨⟨Or.inl ⟨_, _, rfl, by decide, by decide, by decide⟩, rfl⟩, Or.inl (by simp)⟩
        · exact ⟨⟨word_tokC hw, rfl⟩, Or.inl (by simp)⟩
    · rcases List.mem_append.1 hp with hp | hp
      · simp only [List.mem_cons, List.not_mem_nil, or_false] at hp
        rcases hp with rfl | rfl | rfl
        · exact ⟨⟨Or.inr (Or.inr (Or.inl rfl)), rfl⟩, Or.inr (Or.inl rfl)⟩
        · have h1 := h.n1
          have h2 := h.n2
          exact ⟨⟨dig_tokC (by omega) (by omega), rfl⟩, Or.inl (by simp)⟩
        · exact ⟨⟨Or.inl ⟨_, _, rfl, by decide, by decide, by decide⟩, rfl⟩, Or.inl (by simp)⟩
      · exact gsWho_nice h.who _ (Nat.le_refl _) p hp
  have hd : TokC (bl8 r.what) ∧ bst false g = some false := ⟨what_tokC h.what, hg⟩
  refine ⟨?_, fun p hp => (key p hp).2, ?_⟩
  · intro p hp
    cases hp with
    | head => exact hd
    | tail _ hp => exact (key p hp).1
  · intro hne p hp
    cases hp with
    | head => exact Or.inl hne
    | tail _ hp => exact (key p hp).2
theorem gsRules_all {l : List Rule} (h : ∀ r ∈ l, Fine r) : ∀ g : List UInt8, bst false g = some false → (∀ p ∈ gsRules g l, TokC p.2 ∧ bst false p.1 = some false) ∧ (∀ p ∈ (gsRules g l).tail, sgn p) ∧ (g ≠ [] → ∀ p ∈ gsRules g l, sgn p) := by
  induction l with
  | nil => intro g hg; simp [gsRules]
  | cons r l ih =>
    intro g hg
    obtain ⟨a1, a2, a3⟩ := gsRule_nice hg (h r (.head _))
    obtain ⟨b1, b2, b3⟩ := ih (fun r hr => h r (.tail _ hr)) [10] (by decide)
    refine ⟨?_, ?_, ?_⟩
    · intro p hp
      rcases List.mem_append.1 hp with hp | hp
      · exact a1 p hp
      · exact b1 p hp
    · intro p hp
      have : (gsRules g (r :: l)).tail = (gsRule g r).tail ++ gsRules [10] l := by simp [gsRules, gsRule]
      rw [this] at hp
      rcases List.mem_append.1 hp with hp | hp
      · exact a2 p hp
      · exact b3 (by simp) p hp
    · intro hne p hp
      rcases List.mem_append.1 hp with hp | hp
      · exact a3 hne p hp
      · exact b3 (by simp) p hp
theorem gsRules_nice {l : List Rule} (h : ∀ r ∈ l, Fine r) : Nice (gsRules [] l) :=
  ⟨(gsRules_all h [] rfl).1, (gsRules_all h [] rfl).2.1⟩
theorem scan_print {y : List Rule} (hv : validF y = true) : scan (rulesTxt y) = ((gsRules [] y).map tk, if y = [] then [] else [10], -1) := by
  obtain ⟨hf, hl⟩ := validF_fine hv
  by_cases c : y = []
  · subst c; rfl
  · have ht := gsRules_text y [] c
    rw [List.nil_append] at ht
    have hlen := rulesTxt_len hf
    rw [← ht, scan_nice ⟨false, by decide⟩ (gsRules_nice hf) (by rw [ht]; omega), if_neg c]
theorem refP_print {y : List Rule} (hv : validF y = true) : refP (printF y) = (y, -1) := by
  rw [printF, if_pos hv]
  refine refP_tokens (scan_print hv) ?_ hv
  rw [← gsRules_snd y [], List.map_map]
  rfl
theorem refP_spaced {y : List Rule} (hv : validF y = true) {gs : List (List UInt8 × List UInt8)} {t : List UInt8} (hg : gs.map (·.2) = rulesT y) (h1 : ∀ p ∈ gs, bst false p.1 = some false) (h2 : ∀ p ∈ gs.tail, p.1 ≠ []) (ht : ∃ d, bst false t = some d) (hl : (gtext gs t).length ≤ 8192) : refP (gtext gs t) = (y, -1) := by
  obtain ⟨hf, _⟩ := validF_fine hv
  have hall := (gsRules_all hf [] rfl).1
  have hn : Nice gs := by
    refine ⟨fun p hp => ⟨?_, h1 p hp⟩, fun p hp => Or.inl (h2 p hp)⟩
    have : p.2 ∈ rulesT y := by rw [← hg]; exact List.mem_map.2 ⟨p, hp, rfl⟩
    rw [← gsRules_snd y []] at this
    obtain ⟨q, hq, e⟩ := List.mem_map.1 this
    rw [← e]
    exact (hall q hq).1
  refine refP_tokens (scan_nice ht hn hl) ?_ hv
  rw [← hg, List.map_map]
  rfl
end Go.Proofs.Tryd
set_option maxRecDepth 100000
set_option linter.unusedSimpArgs false
set_option linter.unusedVariables false
namespace Go.Proofs.Tryd
open Go Go.DL
variable {G : Nat → D} {H : List O} {Q : D → List O → Prop}
def gapsL : List (List UInt8) := [[], [32], [10], [32, 32], [35, 32, 97, 32, 40, 98, 10], [32, 35, 10, 32], [10, 10], [35, 255, 35, 32, 49, 10]]
def gap0 (k : Nat) : List UInt8 := gapsL.getD (k % 8) [] ++ (if k % 3 = 0 then gapsL.getD (k / 8 % 8) [] else [])
def gapF (n some_ : Int) : List UInt8 := if gap0 (around n 1000000).toNat = [] ∧ some_ ≠ 0 then [32] else gap0 (around n 1000000).toNat
theorem gapsL_bst : ∀ k, k < 8 → bst false (gapsL.getD k []) = some false := by decide
theorem gapsL_len : ∀ k, k < 8 → (gapsL.getD k []).length ≤ 7 := by decide
theorem gap0_bst (k : Nat) : bst false (gap0 k) = some false := by
  unfold gap0
  have h1 := gapsL_bst (k % 8) (by omega)
  have h2 := gapsL_bst (k / 8 % 8) (by omega)
  split
  · rw [bst_app _ _ _ _ h1]; exact h2
  · rw [bst_app _ _ _ _ h1]; rfl
theorem gapF_bst (n s : Int) : bst false (gapF n s) = some false := by
  unfold gapF
  split
  · decide
  · exact gap0_bst _
theorem gapF_ne {n s : Int} (h : s ≠ 0) : gapF n s ≠ [] := by
  unfold gapF
  split
  · simp
  · rename_i q; exact fun e => q ⟨e, h⟩
theorem gap0_len (k : Nat) : (gap0 k).length ≤ 14 := by
  unfold gap0
  have h1 := gapsL_len (k % 8) (by omega)
  have h2 := gapsL_len (k / 8 % 8) (by omega)
  split <;> simp only [List.length_append, List.length_nil] <;> omega
theorem gapF_len (n s : Int) : (gapF n s).length ≤ 14 := by
  unfold gapF
  split
  · simp
  · exact gap0_len _
theorem tmodN (m k : Nat) : ((m : Int).tmod (k : Int)) = ((m % k : Nat) : Int) := by
  rw [Int.tmod_eq_emod_of_nonneg (by omega)]; rfl
theorem tdivN (m k : Nat) : ((m : Int).tdiv (k : Int)) = ((m / k : Nat) : Int) := by
  rw [Int.tdiv_eq_ediv_of_nonneg (by omega)]; rfl
theorem gap_spec (n some_ : Int) (hn : I64 n) (hQ : Q (dS (str (gapF n some_))) H) : CallA Tryd.prog G 12 [dI n, dI some_] H Q := by
  refine s12 (Nat.le_of_ble_eq_true rfl) ?_
  simp -dsimp -implicitDefEqProofs (maxSteps := 1000000) (disch := first | omega | (simp only [List.length_append, List.length_cons, List.length_nil]; omega) | (intros; simp only [ne_eq, reduceCtorEq, not_false_eq_true] <;> fail)) only [DL.R, Nat.reduceEqDiff, ↓reduceIte, reduceCtorEq, Int.reduceToNat, Int.reduceLE, Int.reduceLT, Nat.reduceLeDiff, Nat.reduceAdd, Nat.reduceMul, Int.reduceBNe, Int.reduceBEq, Int.cast_ofNat_Int, decide_true, decide_false, ne_eq, eq_self, implies_true, dc12_r0, dc12_r1, dc12_r2, dc12_r3, dc12_r4, dc12_r5, dc12_r6, dc12_r7, dc12_r8, dc12, DL.dI, DL.dB, DL.dS]
  refine around_spec n 1000000 hn (by omega) (by omega) ?_
  have hr := around_range n 1000000 (by omega)
  obtain ⟨k, hk⟩ : ∃ k : Nat, around n 1000000 = (k : Int) := ⟨(around n 1000000).toNat, by omega⟩
  have hgap : gapF n some_ = if gap0 k = [] ∧ some_ ≠ 0 then [32] else gap0 k := by rw [gapF, hk]; rfl
  have hk2 : k < 1000000 := by omega
  have hws : ([D.lit (.string (str [])), D.lit (.string (str [32])), D.lit (.string (str [10])), D.lit (.string (str [32, 32])), D.lit (.string (str [35, 32, 97, 32, 40, 98, 10])), D.lit (.string (str [32, 35, 10, 32])), D.lit (.string (str [10, 10])), D.lit (.string (str [35, 255, 35, 32, 49, 10]))] : List D) = gapsL.map fun x => D.lit (.string (str x)) := rfl
  have t8 : ((k : Int).tmod 8) = ((k % 8 : Nat) : Int) := tmodN k 8
  have t3 : ((k : Int).tmod 3) = ((k % 3 : Nat) : Int) := tmodN k 3
  have d8 : ((k : Int).tdiv 8) = ((k / 8 : Nat) : Int) := tdivN k 8
  have t88 : (((k / 8 : Nat) : Int).tmod 8) = ((k / 8 % 8 : Nat) : Int) := tmodN (k / 8) 8
  have l1 : k % 8 < gapsL.length := by show k % 8 < 8; omega
  have l2 : k / 8 % 8 < gapsL.length := by show k / 8 % 8 < 8; omega
  have g1 : gapsL[k % 8] = gapsL.getD (k % 8) [] := by rw [List.getD_eq_getElem?_getD, List.getElem?_eq_getElem l1]; rfl
  have g2 : gapsL[k / 8 % 8] = gapsL.getD (k / 8 % 8) [] := by rw [List.getD_eq_getElem?_getD, List.getElem?_eq_getElem l2]; rfl
  have b1 := gapsL_len (k % 8) (by omega)
  have b2 := gapsL_len (k / 8 % 8) (by omega)
  rw [hk]
  by_cases c3 : k % 3 = 0
  · have e3 : (((k % 3 : Nat) : Int) == 0) = true := by simp [c3]
    have hg0 : gap0 k = gapsL.getD (k % 8) [] ++ gapsL.getD (k / 8 % 8) [] := by simp [gap0, c3]
    simp -dsimp -implicitDefEqProofs (maxSteps := 1000000) (disch := first | omega | (simp only [List.length_append, List.length_cons, List.length_nil]; omega) | (intros; simp only [ne_eq, reduceCtorEq, not_false_eq_true] <;> fail)) only [DL.R, Nat.reduceEqDiff, ↓reduceIte, reduceCtorEq, Int.reduceToNat, Int.reduceLE, Int.reduceLT, Nat.reduceLeDiff, Nat.reduceAdd, Nat.reduceMul, Int.reduceBNe, Int.reduceBEq, Int.cast_ofNat_Int, decide_true, decide_false, ne_eq, eq_self, implies_true, dc12_r0, dc12_r1, dc12_r2, dc12_r3, dc12_r4, dc12_r5, dc12_r6, dc12_r7, dc12_r8, dc12, DL.dI, DL.dB, DL.dS, hws, t8, t3, d8, t88, e3, g1, g2, sadd, DL.wrap_id]
    rw [← hg0]
    by_cases c1 : gap0 k = []
    · have e1 : (gap0 k == []) = true := by simp [c1]
      by_cases c2 : some_ = 0
      · have e2 : (some_ != 0) = false := by simp [c2]
        simp -dsimp -implicitDefEqProofs (maxSteps := 1000000) (disch := first | omega | (simp only [List.length_append, List.length_cons, List.length_nil]; omega) | (intros; simp only [ne_eq, reduceCtorEq, not_false_eq_true] <;> fail)) only [DL.R, Nat.reduceEqDiff, ↓reduceIte, reduceCtorEq, Int.reduceToNat, Int.reduceLE, Int.reduceLT, Nat.reduceLeDiff, Nat.reduceAdd, Nat.reduceMul, Int.reduceBNe, Int.reduceBEq, Int.cast_ofNat_Int, decide_true, decide_false, ne_eq, eq_self, implies_true, dc12_r0, dc12_r1, dc12_r2, dc12_r3, dc12_r4, dc12_r5, dc12_r6, dc12_r7, dc12_r8, dc12, DL.dI, DL.dB, DL.dS, e1, e2]
        rw [hgap, if_neg (by simp [c2])] at hQ
        exact hQ
      · have e2 : (some_ != 0) = true := by simp [c2]
        simp -dsimp -implicitDefEqProofs (maxSteps := 1000000) (disch := first | omega | (simp only [List.length_append, List.length_cons, List.length_nil]; omega) | (intros; simp only [ne_eq, reduceCtorEq, not_false_eq_true] <;> fail)) only [DL.R, Nat.reduceEqDiff, ↓reduceIte, reduceCtorEq, Int.reduceToNat, Int.reduceLE, Int.reduceLT, Nat.reduceLeDiff, Nat.reduceAdd, Nat.reduceMul, Int.reduceBNe, Int.reduceBEq, Int.cast_ofNat_Int, decide_true, decide_false, ne_eq, eq_self, implies_true, dc12_r0, dc12_r1, dc12_r2, dc12_r3, dc12_r4, dc12_r5, dc12_r6, dc12_r7, dc12_r8, dc12, DL.dI, DL.dB, DL.dS, e1, e2]
        rw [hgap, if_pos ⟨c1, c2⟩] at hQ
        exact hQ
    · have e1 : (gap0 k == []) = false := by simp [c1]
      simp -dsimp -implicitDefEqProofs (maxSteps := 1000000) (disch := first | omega | (simp only [List.length_append, List.length_cons, List.length_nil]; omega) | (intros; simp only [ne_eq, reduceCtorEq, not_false_eq_true] <;> fail)) only [DL.R, Nat.reduceEqDiff, ↓reduceIte, reduceCtorEq, Int.reduceToNat, Int.reduceLE, Int.reduceLT, Nat.reduceLeDiff, Nat.reduceAdd, Nat.reduceMul, Int.reduceBNe, Int.reduceBEq, Int.cast_ofNat_Int, decide_true, decide_false, ne_eq, eq_self, implies_true, dc12_r0, dc12_r1, dc12_r2, dc12_r3, dc12_r4, dc12_r5, dc12_r6, dc12_r7, dc12_r8, dc12, DL.dI, DL.dB, DL.dS, e1]
      rw [hgap, if_neg (by simp [c1])] at hQ
      exact hQ
  · have e3 : (((k % 3 : Nat) : Int) == 0) = false := by simp; omega
    have hg0 : gap0 k = gapsL.getD (k % 8) [] := by simp [gap0, c3]
    simp -dsimp -implicitDefEqProofs (maxSteps := 1000000) (disch := first | omega | (simp only [List.length_append, List.length_cons, List.length_nil]; omega) | (intros; simp only [ne_eq, reduceCtorEq, not_false_eq_true] <;> fail)) only [DL.R, Nat.reduceEqDiff, ↓reduceIte, reduceCtorEq, Int.reduceToNat, Int.reduceLE, Int.reduceLT, Nat.reduceLeDiff, Nat.reduceAdd, Nat.reduceMul, Int.reduceBNe, Int.reduceBEq, Int.cast_ofNat_Int, decide_true, decide_false, ne_eq, eq_self, implies_true, dc12_r0, dc12_r1, dc12_r2, dc12_r3, dc12_r4, dc12_r5, dc12_r6, dc12_r7, dc12_r8, dc12, DL.dI, DL.dB, DL.dS, hws, t8, t3, d8, t88, e3, g1, g2, sadd, DL.wrap_id]
    rw [← hg0]
    by_cases c1 : gap0 k = []
    · have e1 : (gap0 k == []) = true := by simp [c1]
      by_cases c2 : some_ = 0
      · have e2 : (some_ != 0) = false := by simp [c2]
        simp -dsimp -implicitDefEqProofs (maxSteps := 1000000) (disch := first | omega | (simp only [List.length_append, List.length_cons, List.length_nil]; omega) | (intros; simp only [ne_eq, reduceCtorEq, not_false_eq_true] <;> fail)) only [DL.R, Nat.reduceEqDiff, ↓reduceIte, reduceCtorEq, Int.reduceToNat, Int.reduceLE, Int.reduceLT, Nat.reduceLeDiff, Nat.reduceAdd, Nat.reduceMul, Int.reduceBNe, Int.reduceBEq, Int.cast_ofNat_Int, decide_true, decide_false, ne_eq, eq_self, implies_true, dc12_r0, dc12_r1, dc12_r2, dc12_r3, dc12_r4, dc12_r5, dc12_r6, dc12_r7, dc12_r8, dc12, DL.dI, DL.dB, DL.dS, e1, e2]
        rw [hgap, if_neg (by simp [c2])] at hQ
        exact hQ
      · have e2 : (some_ != 0) = true := by simp [c2]
        simp -dsimp -implicitDefEqProofs (maxSteps := 1000000) (disch := first | omega | (simp only [List.length_append, List.length_cons, List.length_nil]; omega) | (intros; simp only [ne_eq, reduceCtorEq, not_false_eq_true] <;> fail)) only [DL.R, Nat.reduceEqDiff, ↓reduceIte, reduceCtorEq, Int.reduceToNat, Int.reduceLE, Int.reduceLT, Nat.reduceLeDiff, Nat.reduceAdd, Nat.reduceMul, Int.reduceBNe, Int.reduceBEq, Int.cast_ofNat_Int, decide_true, decide_false, ne_eq, eq_self, implies_true, dc12_r0, dc12_r1, dc12_r2, dc12_r3, dc12_r4, dc12_r5, dc12_r6, dc12_r7, dc12_r8, dc12, DL.dI, DL.dB, DL.dS, e1, e2]
        rw [hgap, if_pos ⟨c1, c2⟩] at hQ
        exact hQ
    · have e1 : (gap0 k == []) = false := by simp [c1]
      simp -dsimp -implicitDefEqProofs (maxSteps := 1000000) (disch := first | omega | (simp only [List.length_append, List.length_cons, List.length_nil]; omega) | (intros; simp only [ne_eq, reduceCtorEq, not_false_eq_true] <;> fail)) only [DL.R, Nat.reduceEqDiff, ↓reduceIte, reduceCtorEq, Int.reduceToNat, Int.reduceLE, Int.reduceLT, Nat.reduceLeDiff, Nat.reduceAdd, Nat.reduceMul, Int.reduceBNe, Int.reduceBEq, Int.cast_ofNat_Int, decide_true, decide_false, ne_eq, eq_self, implies_true, dc12_r0, dc12_r1, dc12_r2, dc12_r3, dc12_r4, dc12_r5, dc12_r6, dc12_r7, dc12_r8, dc12, DL.dI, DL.dB, DL.dS, e1]
      rw [hgap, if_neg (by simp [c1])] at hQ
      exact hQ
end Go.Proofs.Tryd
set_option maxRecDepth 100000
set_option maxHeartbeats 4000000
set_option linter.unusedSimpArgs false
set_option linter.unusedVariables false
namespace Go.Proofs.Tryd
open Go Go.DL
variable {G : Nat → D} {H : List O} {Q : D → List O → Prop}
def catT (ts : List Tok) : List UInt8 := ts.flatMap fun t => t.before ++ t.text
theorem catT_snoc (ts : List Tok) (t : Tok) : catT (ts ++ [t]) = catT ts ++ (t.before ++ t.text) := by simp [catT]
theorem catT_len {n : Nat} : ∀ {ts : List Tok}, (∀ t ∈ ts, t.before.length + t.text.length ≤ n) → (catT ts).length ≤ n * ts.length
  | [], _ => by simp [catT]
  | t :: ts, h => by
    have h1 := h t (.head _)
    have h2 := catT_len (ts := ts) fun t ht => h t (.tail _ ht)
    have h3 : catT (t :: ts) = (t.before ++ t.text) ++ catT ts := rfl
    rw [h3, List.length_append, List.length_append, List.length_cons, Nat.mul_add]; omega
theorem text_spec (ts : List Tok) (e : List UInt8) (hl : ts.length ≤ 8192) (hne : ∀ t ∈ ts, t.text ≠ []) (hb : ∀ t ∈ ts, t.before.length + t.text.length ≤ 100) (he : e.length ≤ 100) (hQ : Q (dS (str (catT ts ++ e))) H) :
    CallA Tryd.prog G 25 [.sl (toksD ts), dS (str e)] H Q := by
  refine CallA.drop (s25 (Nat.le_of_ble_eq_true rfl) ?_)
  have hlen : (toksD ts).length = ts.length := by simp [toksD]
  simp -dsimp -implicitDefEqProofs (maxSteps := 1000000) (disch := first | omega | (simp only [List.length_append, List.length_cons, List.length_nil]; omega) | (intros; simp only [ne_eq, reduceCtorEq, not_false_eq_true] <;> fail)) only [DL.R, Nat.reduceEqDiff, ↓reduceIte, reduceCtorEq, Int.reduceToNat, Int.reduceLE, Int.reduceLT, Nat.reduceLeDiff, Nat.reduceAdd, Nat.reduceMul, Int.reduceBNe, Int.reduceBEq, Int.cast_ofNat_Int, decide_true, decide_false, ne_eq, eq_self, implies_true, dc25_r0, dc25_r1, dc25_r2, dc25_r3, dc25_r4, dc25_r5, dc25_r6, dc25_r7, dc25, DL.dI, DL.dB, DL.dS]
  refine for_i 10 ts.length (fun k s' K => BldAt H K (catT (ts.take k)) ∧ s' 5 = .ptr H.length 0 ∧ s' 8 = .sl (toksD ts) ∧ s' 9 = dI ts.length ∧ s' 1 = dS (str e)) ?_ ?_ ?_
  · simp -dsimp -implicitDefEqProofs (maxSteps := 1000000) (disch := first | omega | (simp only [List.length_append, List.length_cons, List.length_nil]; omega) | (intros; simp only [ne_eq, reduceCtorEq, not_false_eq_true] <;> fail)) only [DL.R, Nat.reduceEqDiff, ↓reduceIte, reduceCtorEq, Int.reduceToNat, Int.reduceLE, Int.reduceLT, Nat.reduceLeDiff, Nat.reduceAdd, Nat.reduceMul, Int.reduceBNe, Int.reduceBEq, Int.cast_ofNat_Int, decide_true, decide_false, ne_eq, eq_self, implies_true, DL.dI, DL.dB, DL.dS]
  · simp -dsimp -implicitDefEqProofs (maxSteps := 1000000) (disch := first | omega | (simp only [List.length_append, List.length_cons, List.length_nil]; omega) | (intros; simp only [ne_eq, reduceCtorEq, not_false_eq_true] <;> fail)) only [DL.R, Nat.reduceEqDiff, ↓reduceIte, reduceCtorEq, Int.reduceToNat, Int.reduceLE, Int.reduceLT, Nat.reduceLeDiff, Nat.reduceAdd, Nat.reduceMul, Int.reduceBNe, Int.reduceBEq, Int.cast_ofNat_Int, decide_true, decide_false, ne_eq, eq_self, implies_true, DL.dI, DL.dB, DL.dS, hlen]
    exact .inl ⟨rfl, [], rfl⟩
  · rintro k s' K hk ht ⟨hB, h5, h8, h9, h1⟩
    have h8' : s' 8 = .sl (ts.map tokD) := h8
    by_cases c : k < ts.length
    · have c1 : decide ((k : Int) < (ts.length : Int)) = true := decide_eq_true (by omega)
      obtain ⟨q, hq⟩ : ∃ q, ts[k] = q := ⟨_, rfl⟩
      have hqn := hne _ (List.getElem_mem c)
      have hqb := hb _ (List.getElem_mem c)
      rw [hq] at hqn hqb
      have htk : ts.take (k + 1) = ts.take k ++ [q] := by rw [List.take_succ_eq_append_getElem c, hq]
      have htl := catT_len (n := 100) (ts := ts.take k) fun t ht => hb t (List.mem_of_mem_take ht)
      rw [List.length_take] at htl
      obtain ⟨T, hT⟩ : ∃ T, catT (ts.take k) = T := ⟨_, rfl⟩
      rw [hT] at hB htl
      simp -dsimp -implicitDefEqProofs (maxSteps := 1000000) (disch := first | omega | (simp only [List.length_append, List.length_cons, List.length_nil]; omega) | (intros; simp only [ne_eq, reduceCtorEq, not_false_eq_true] <;> fail)) only [DL.R, Nat.reduceEqDiff, ↓reduceIte, reduceCtorEq, Int.reduceToNat, Int.reduceLE, Int.reduceLT, Nat.reduceLeDiff, Nat.reduceAdd, Nat.reduceMul, Int.reduceBNe, Int.reduceBEq, Int.cast_ofNat_Int, decide_true, decide_false, ne_eq, eq_self, implies_true, dc25_r0, dc25_r1, dc25_r2, dc25_r3, dc25_r4, dc25_r5, dc25_r6, dc25_r7, dc25, DL.dI, DL.dB, DL.dS, h5, h8', h9, h1, ht, c1, hq, tokD, sadd, DL.wrap_id]
      have hKl := hB.lt
      refine ws_spec (s := q.before ++ q.text) (hB.push _) (by intro z; exact hqn (List.append_eq_nil_iff.1 (List.append_eq_nil_iff.1 z).2).2) (by simp; omega) fun K1 hB1 hl1 hf1 => ?_
      simp -dsimp -implicitDefEqProofs (maxSteps := 1000000) (disch := first | omega | (simp only [List.length_append, List.length_cons, List.length_nil]; omega) | (intros; simp only [ne_eq, reduceCtorEq, not_false_eq_true] <;> fail)) only [DL.R, Nat.reduceEqDiff, ↓reduceIte, reduceCtorEq, Int.reduceToNat, Int.reduceLE, Int.reduceLT, Nat.reduceLeDiff, Nat.reduceAdd, Nat.reduceMul, Int.reduceBNe, Int.reduceBEq, Int.cast_ofNat_Int, decide_true, decide_false, ne_eq, eq_self, implies_true, dc25_r0, dc25_r1, dc25_r2, dc25_r3, dc25_r4, dc25_r5, dc25_r6, dc25_r7, dc25, DL.dI, DL.dB, DL.dS, h5, h8, h9, h1, ht, DL.wrap_id]
      exact ⟨c, by rw [htk, catT_snoc, hT]; exact hB1⟩
    · have c1 : decide ((k : Int) < (ts.length : Int)) = false := decide_eq_false (by omega)
      have hk' : k = ts.length := by omega
      subst hk'
      rw [List.take_length] at hB
      simp -dsimp -implicitDefEqProofs (maxSteps := 1000000) (disch := first | omega | (simp only [List.length_append, List.length_cons, List.length_nil]; omega) | (intros; simp only [ne_eq, reduceCtorEq, not_false_eq_true] <;> fail)) only [DL.R, Nat.reduceEqDiff, ↓reduceIte, reduceCtorEq, Int.reduceToNat, Int.reduceLE, Int.reduceLT, Nat.reduceLeDiff, Nat.reduceAdd, Nat.reduceMul, Int.reduceBNe, Int.reduceBEq, Int.cast_ofNat_Int, decide_true, decide_false, ne_eq, eq_self, implies_true, dc25_r0, dc25_r1, dc25_r2, dc25_r3, dc25_r4, dc25_r5, dc25_r6, dc25_r7, dc25, DL.dI, DL.dB, DL.dS, h5, h8, h9, h1, ht, c1]
      refine str_spec hB fun Gs => ?_
      have htl := catT_len (n := 100) (ts := ts) hb
      simp -dsimp -implicitDefEqProofs (maxSteps := 1000000) (disch := first | omega | (simp only [List.length_append, List.length_cons, List.length_nil]; omega) | (intros; simp only [ne_eq, reduceCtorEq, not_false_eq_true] <;> fail)) only [DL.R, Nat.reduceEqDiff, ↓reduceIte, reduceCtorEq, Int.reduceToNat, Int.reduceLE, Int.reduceLT, Nat.reduceLeDiff, Nat.reduceAdd, Nat.reduceMul, Int.reduceBNe, Int.reduceBEq, Int.cast_ofNat_Int, decide_true, decide_false, ne_eq, eq_self, implies_true, dc25_r0, dc25_r1, dc25_r2, dc25_r3, dc25_r4, dc25_r5, dc25_r6, dc25_r7, dc25, DL.dI, DL.dB, DL.dS, h5, h8, h9, h1, ht, sadd]
      exact ⟨Gs, rfl, .lit _, hQ⟩
end Go.Proofs.Tryd
set_option maxRecDepth 100000
set_option linter.unusedSimpArgs false
set_option linter.unusedVariables false
namespace Go.Proofs.Tryd
open Go Go.DL
variable {G : Nat → D} {H : List O} {Q : D → List O → Prop}
theorem scanR_spec (hE : Env G) (l : List UInt8) (ts : List Tok) (t0 : List UInt8) (hs : scan l = (ts, t0, -1)) (hl : l.length ≤ 1099511627776) (hQ : ∀ ver, Q (.tup [.row H.length ver, dS (str t0), dI (-1)]) (H ++ [.row true ver 52 2 (toksD ts)])) : CallA Tryd.prog G 24 [dS (str l)] H Q := by
  refine s24 (Nat.le_of_ble_eq_true rfl) ?_
  by_cases c0 : l.length > 8192
  · have e0 : decide ((l.length : Int) > 8192) = true := by simp; omega
    exact absurd hs (by rw [scan, if_pos c0]; simp)
  · have e0 : decide ((l.length : Int) > 8192) = false := by simp; omega
    simp -dsimp -implicitDefEqProofs (maxSteps := 1000000) (disch := first | omega | (simp only [List.length_append, List.length_cons, List.length_nil]; omega) | (intros; simp only [ne_eq, reduceCtorEq, not_false_eq_true] <;> fail)) only [DL.R, Nat.reduceEqDiff, ↓reduceIte, reduceCtorEq, Int.reduceToNat, Int.reduceLE, Int.reduceLT, Nat.reduceLeDiff, Nat.reduceAdd, Nat.reduceMul, Int.reduceBNe, Int.reduceBEq, Int.cast_ofNat_Int, decide_true, decide_false, ne_eq, eq_self, implies_true, dc24_r0, dc24_r1, dc24_r2, dc24_r3, dc24_r4, dc24_r5, dc24_r6, dc24_r7, dc24_r8, dc24_r9, dc24_r10, dc24_r11, dc24_r12, dc24_r13, dc24_r14, dc24, DL.dI, DL.dB, DL.dS, e0]
    refine ⟨by omega, ?_⟩
    refine loop_i (fun s' H' => s' 0 = dS (str l) ∧ ∃ (p n ver : Nat) (acc : List Tok), p ≤ l.length ∧ acc.length ≤ p ∧ l.length - p < n ∧ scan l = scanN n (l.drop p) p acc ∧ s' 6 = dI p ∧ s' 5 = .row H.length ver ∧ H' = H ++ [.row true ver 52 2 (toksD acc)]) (fun s' _ => l.length - (s' 6).toN) ?_ ?_
    · simp -dsimp -implicitDefEqProofs (maxSteps := 1000000) (disch := first | omega | (simp only [List.length_append, List.length_cons, List.length_nil]; omega) | (intros; simp only [ne_eq, reduceCtorEq, not_false_eq_true] <;> fail)) only [DL.R, Nat.reduceEqDiff, ↓reduceIte, reduceCtorEq, Int.reduceToNat, Int.reduceLE, Int.reduceLT, Nat.reduceLeDiff, Nat.reduceAdd, Nat.reduceMul, Int.reduceBNe, Int.reduceBEq, Int.cast_ofNat_Int, decide_true, decide_false, ne_eq, eq_self, implies_true, DL.dI, DL.dB, DL.dS]
      exact ⟨0, l.length + 1, 0, [], by omega, by simp, by omega, by simp [scan, c0], rfl, rfl, rfl⟩
    · rintro s' H' ⟨h0, p, n, ver, acc, hp, ha, hn, hS, h6, h5, rfl⟩
      obtain ⟨n, rfl⟩ : ∃ m, n = m + 1 := ⟨n - 1, by omega⟩
      rw [scanN] at hS
      have hble := bl_le false (l.drop p)
      rw [List.length_drop] at hble
      obtain ⟨k, hk⟩ : ∃ k, bl false (l.drop p) = k := ⟨_, rfl⟩
      rw [hk] at hS hble
      rw [List.drop_drop] at hS
      have t1 : (l.drop p).take (l.length - p) = l.drop p := List.take_of_length_le (by simp)
      simp -dsimp -implicitDefEqProofs (maxSteps := 1000000) (disch := first | omega | (simp only [List.length_append, List.length_cons, List.length_nil]; omega) | (intros; simp only [ne_eq, reduceCtorEq, not_false_eq_true] <;> fail)) only [DL.R, Nat.reduceEqDiff, ↓reduceIte, reduceCtorEq, Int.reduceToNat, Int.reduceLE, Int.reduceLT, Nat.reduceLeDiff, Nat.reduceAdd, Nat.reduceMul, Int.reduceBNe, Int.reduceBEq, Int.cast_ofNat_Int, decide_true, decide_false, ne_eq, eq_self, implies_true, dc24_r0, dc24_r1, dc24_r2, dc24_r3, dc24_r4, dc24_r5, dc24_r6, dc24_r7, dc24_r8, dc24_r9, dc24_r10, dc24_r11, dc24_r12, dc24_r13, dc24_r14, dc24, DL.dI, DL.dB, DL.dS, h0, h6, h5, t1]
      refine ⟨by omega, by omega, ?_⟩
      refine blanks_spec (l.drop p) (by simp; omega) ?_
      rw [hk]
      simp -dsimp -implicitDefEqProofs (maxSteps := 1000000) (disch := first | omega | (simp only [List.length_append, List.length_cons, List.length_nil]; omega) | (intros; simp only [ne_eq, reduceCtorEq, not_false_eq_true] <;> fail)) only [DL.R, Nat.reduceEqDiff, ↓reduceIte, reduceCtorEq, Int.reduceToNat, Int.reduceLE, Int.reduceLT, Nat.reduceLeDiff, Nat.reduceAdd, Nat.reduceMul, Int.reduceBNe, Int.reduceBEq, Int.cast_ofNat_Int, decide_true, decide_false, ne_eq, eq_self, implies_true, dc24_r0, dc24_r1, dc24_r2, dc24_r3, dc24_r4, dc24_r5, dc24_r6, dc24_r7, dc24_r8, dc24_r9, dc24_r10, dc24_r11, dc24_r12, dc24_r13, dc24_r14, dc24, DL.dI, DL.dB, DL.dS, h0, h6, h5, DL.wrap_id]
      refine ⟨by omega, by omega, by omega, ?_⟩
      have n1 : ((p : Int) + (k : Int)).toNat - p = k := by omega
      by_cases c1 : p + k = l.length
      · have e1 : (((p : Int) + (k : Int)) == (l.length : Int)) = true := by simp; omega
        have hnil : l.drop (p + k) = [] := List.drop_of_length_le (by omega)
        rw [if_pos hnil] at hS
        simp -dsimp -implicitDefEqProofs (maxSteps := 1000000) (disch := first | omega | (simp only [List.length_append, List.length_cons, List.length_nil]; omega) | (intros; simp only [ne_eq, reduceCtorEq, not_false_eq_true] <;> fail)) only [DL.R, Nat.reduceEqDiff, ↓reduceIte, reduceCtorEq, Int.reduceToNat, Int.reduceLE, Int.reduceLT, Nat.reduceLeDiff, Nat.reduceAdd, Nat.reduceMul, Int.reduceBNe, Int.reduceBEq, Int.cast_ofNat_Int, decide_true, decide_false, ne_eq, eq_self, implies_true, dc24_r0, dc24_r1, dc24_r2, dc24_r3, dc24_r4, dc24_r5, dc24_r6, dc24_r7, dc24_r8, dc24_r9, dc24_r10, dc24_r11, dc24_r12, dc24_r13, dc24_r14, dc24, DL.dI, DL.dB, DL.dS, h0, h6, h5, e1, n1]
        have hx := hs.symm.trans hS
        simp only [Prod.mk.injEq] at hx
        rw [← hx.1, ← hx.2.1]
        exact hQ ver
      · have e1 : (((p : Int) + (k : Int)) == (l.length : Int)) = false := by simp; omega
        have hcons : l.drop (p + k) ≠ [] := by simp; omega
        rw [if_neg hcons] at hS
        have t2 : (l.drop (((p : Int) + (k : Int)).toNat)).take (l.length - ((p : Int) + (k : Int)).toNat) = l.drop (p + k) := by
          rw [show ((p : Int) + (k : Int)).toNat = p + k by omega]; exact List.take_of_length_le (by simp)
        simp -dsimp -implicitDefEqProofs (maxSteps := 1000000) (disch := first | omega | (simp only [List.length_append, List.length_cons, List.length_nil]; omega) | (intros; simp only [ne_eq, reduceCtorEq, not_false_eq_true] <;> fail)) only [DL.R, Nat.reduceEqDiff, ↓reduceIte, reduceCtorEq, Int.reduceToNat, Int.reduceLE, Int.reduceLT, Nat.reduceLeDiff, Nat.reduceAdd, Nat.reduceMul, Int.reduceBNe, Int.reduceBEq, Int.cast_ofNat_Int, decide_true, decide_false, ne_eq, eq_self, implies_true, dc24_r0, dc24_r1, dc24_r2, dc24_r3, dc24_r4, dc24_r5, dc24_r6, dc24_r7, dc24_r8, dc24_r9, dc24_r10, dc24_r11, dc24_r12, dc24_r13, dc24_r14, dc24, DL.dI, DL.dB, DL.dS, h0, h6, h5, e1, n1, t2]
        refine ⟨by omega, by omega, ?_⟩
        obtain ⟨b, r, hbr⟩ : ∃ b r, l.drop (p + k) = b :: r := by
          cases hh : l.drop (p + k) with
          | nil => exact absurd hh hcons
          | cons b r => exact ⟨b, r, rfl⟩
        have hrl := congrArg List.length hbr
        simp only [List.length_drop, List.length_cons] at hrl
        rw [hbr]
        refine token_spec b r (by omega) hE.kindsF hE.signs ?_
        rw [← hbr]
        have htk : tok (l.drop (p + k)) ≤ l.length - (p + k) := by
          have := tok_le b r; rw [← hbr, List.length_drop] at this; exact this
        obtain ⟨t, htt⟩ : ∃ t, tok (l.drop (p + k)) = t := ⟨_, rfl⟩
        rw [htt] at hS htk ⊢
        by_cases c2 : t = 0
        · rw [if_pos c2] at hS
          subst c2
          have e2 : decide ((0 : Int) > 0) = false := by simp
          have hx := hs.symm.trans hS
          simp only [Prod.mk.injEq] at hx
          exact absurd hx.2.2 (by omega)
        · rw [if_neg c2] at hS
          have e2 : decide ((t : Int) > 0) = true := by simp; omega
          have n2 : ((p : Int) + (k : Int) + (t : Int)).toNat - (p + k) = t := by omega
          have n3 : ((p : Int) + (k : Int)).toNat = p + k := by omega
          have hlen : (toksD acc).length ≤ 8192 := acc_len (n := n) ha (by omega)
          simp -dsimp -implicitDefEqProofs (maxSteps := 1000000) (disch := first | omega | (simp only [List.length_append, List.length_cons, List.length_nil]; omega) | (intros; simp only [ne_eq, reduceCtorEq, not_false_eq_true] <;> fail)) only [DL.R, Nat.reduceEqDiff, ↓reduceIte, reduceCtorEq, Int.reduceToNat, Int.reduceLE, Int.reduceLT, Nat.reduceLeDiff, Nat.reduceAdd, Nat.reduceMul, Int.reduceBNe, Int.reduceBEq, Int.cast_ofNat_Int, decide_true, decide_false, ne_eq, eq_self, implies_true, dc24_r0, dc24_r1, dc24_r2, dc24_r3, dc24_r4, dc24_r5, dc24_r6, dc24_r7, dc24_r8, dc24_r9, dc24_r10, dc24_r11, dc24_r12, dc24_r13, dc24_r14, dc24, DL.dI, DL.dB, DL.dS, h0, h6, h5, n2, n3, e2, DL.wrap_id, DL.D.toN]
          refine ⟨by omega, by omega, by omega, by omega, ⟨p + k + t, n, ver + 1, acc ++ [⟨(l.drop (p + k)).take t, (l.drop p).take k⟩], by omega, by simp; omega, by omega, by rw [hS, List.drop_drop], by simp, rfl, by rw [toksD_snoc]; rfl⟩, by omega⟩
end Go.Proofs.Tryd
set_option maxRecDepth 100000
set_option maxHeartbeats 4000000
set_option linter.unusedSimpArgs false
set_option linter.unusedVariables false
namespace Go.Proofs.Tryd
open Go Go.DL
variable {G : Nat → D} {H : List O} {Q : D → List O → Prop}
def ruleB (n : Nat) (r : Rule) : Prop := (bl8 r.what).length ≤ n ∧ (bl8 r.mod).length ≤ n ∧ r.who.length ≤ n
theorem ruleB_mono {n m : Nat} {r : Rule} (h : ruleB n r) (hm : n ≤ m) : ruleB m r := ⟨Nat.le_trans h.1 hm, Nat.le_trans h.2.1 hm, Nat.le_trans h.2.2 hm⟩
theorem ruleB_len {n : Nat} {r : Rule} (h : ruleB n r) (hn : n ≤ 1099511627776) : ruleLen r := ⟨Nat.le_trans h.1 hn, Nat.le_trans h.2.1 hn, Nat.le_trans h.2.2 hn⟩
theorem getD_len {B : Nat} {L : List (List UInt8)} (h : ∀ x ∈ L, x.length ≤ B) (k : Nat) : (L.getD k []).length ≤ B := by
  rw [List.getD_eq_getElem?_getD]
  by_cases c : k < L.length
  · rw [List.getElem?_eq_getElem c, Option.getD_some]; exact h _ (List.getElem_mem c)
  · rw [List.getElem?_eq_none (by omega)]; simp
theorem ruleF_B {l : List Int} {names : List (List UInt8)} (hn : ∀ x ∈ names, x.length ≤ 8) (i : Nat) : ruleB 8 (ruleF l names i) := by
  refine ⟨?_, ?_, ruleWho_len l i⟩
  · show (bl8 (str _)).length ≤ 8
    rw [bl8_str]
    exact getD_len (by decide) _
  · show (bl8 (str _)).length ≤ 8
    rw [bl8_str]
    split
    · exact getD_len hn _
    · simp
theorem rulesF_B {l : List Int} {names : List (List UInt8)} {most : Int} (hn : ∀ x ∈ names, x.length ≤ 8) {r : Rule} (h : r ∈ rulesF l names most) : ruleB 8 r := by
  obtain ⟨i, rfl⟩ := rulesF_mem h
  exact ruleF_B hn i
end Go.Proofs.Tryd
set_option maxRecDepth 100000
set_option maxHeartbeats 4000000
set_option linter.unusedSimpArgs false
set_option linter.unusedVariables false
namespace Go.Proofs.Tryd
open Go Go.DL
variable {G : Nat → D} {H : List O} {Q : D → List O → Prop}
theorem refP_small (l : List UInt8) : (refP l).1.length ≤ 64 ∧ ∀ r ∈ (refP l).1, ruleB 16 r := by
  by_cases c : (refP l).2 = -1
  · have hv : validF (refP l).1 = true := refP_sound (l := l) (by rw [← c])
    obtain ⟨hf, h64⟩ := validF_fine hv
    refine ⟨h64, fun r hr => ?_⟩
    have h := hf r hr
    have h1 := whats_len h.what
    have h2 := whoOk_len h.who
    refine ⟨by omega, ?_, by omega⟩
    rcases h.mod with z | z
    · rw [z]; simp
    · exact (isWord_len z).1
  · rw [(refP_no c).1]; simp
end Go.Proofs.Tryd
