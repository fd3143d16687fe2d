/- EndTemperature of the program returns what the reference's returns, for every pipe, flow and temperatures. No condition. -/
import Derived.Test.YtaomflfofihknaaPFnExactEndTemperaturex4
namespace Go.Proofs.Ytaomflfofihknaa.Pure
open Go.RowKit Go.Proofs.Ytaomflfofihknaa.PFnExactEndTemperature Go.Proofs.YtaomflfofihknaaW.PrintWords Go.Proofs.YtaomflfofihknaaW.PrintLast Go.Proofs.YtaomflfofihknaaW.PrintMore
set_option linter.unusedVariables false
set_option linter.unusedSimpArgs false

theorem wrap_id {x : Int} (h1 : -9223372036854775808 ≤ x) (h2 : x ≤ 9223372036854775807) : wrap64 x = x := by unfold wrap64; omega
theorem wf_i64 {x : Int} (h : (Lit.int .i64 x).wf = true) : -9223372036854775808 ≤ x ∧ x ≤ 9223372036854775807 := by
  simp [Lit.wf, IntKind.min, IntKind.max, IntKind.bits, IntKind.signed] at h; omega
theorem mul_bounds {a b A B : Int} (h0 : 0 ≤ a) (hA : a ≤ A) (h1 : -B ≤ b) (h2 : b ≤ B) (hB : 0 ≤ B) : -(A * B) ≤ a * b ∧ a * b ≤ A * B := by
  have e1 := Int.mul_le_mul_of_nonneg_left h2 h0
  have e2 := Int.mul_le_mul_of_nonneg_right hA hB
  have e3 := Int.mul_le_mul_of_nonneg_left h1 h0
  have e4 : a * -B = -(a * B) := Int.mul_neg a B
  omega
theorem mul_nonneg' {a b : Int} (h0 : 0 ≤ a) (h1 : 0 ≤ b) : 0 ≤ a * b := Int.mul_nonneg h0 h1
theorem next_nat {j n : Nat} (h : j < n) (hn : n ≤ 4611686018427387904) : wrap64 ((j : Int) + 1) = ((j + 1 : Nat) : Int) := by
  rw [wrap_id (by omega) (by omega)]; omega
theorem rd_nat (l : List Int) (j : Nat) : rd l (j : Int) = l.getD j 0 := by unfold rd; simp
theorem ifp {α : Type} {c : Prop} [Decidable c] {a b : α} (h : c) : (if c then a else b) = a := if_pos h
theorem ifn {α : Type} {c : Prop} [Decidable c] {a b : α} (h : ¬ c) : (if c then a else b) = b := if_neg h
theorem suc_of {k d : Nat} (h : d < k) : ∃ m, k = m + 1 := ⟨k - 1, by omega⟩
theorem getD_lt {α : Type} {l : List α} {j : Nat} {d : α} (h : j < l.length) : l.getD j d = l[j] := by
  rw [List.getD_eq_getElem?_getD, List.getElem?_eq_getElem h]; rfl
theorem drop_cons {α : Type} (l : List α) {j : Nat} (h : j < l.length) (d : α) : l.drop j = l.getD j d :: l.drop (j + 1) := by
  rw [getD_lt h]; exact List.drop_eq_getElem_cons h
theorem up {α : Type} {g : Nat → Option α} (hm : ∀ k, LeO (g k) (g (k + 1))) {k0 : Nat} {r : α} (h : g k0 = some r) : ∀ k, k0 ≤ k → g k = some r := by
  intro k hk
  induction hk with
  | refl => exact h
  | step _ ih => exact hm _ _ ih

theorem name_same (s : ByteArray) : ∀ (k : Nat) (i : Int), spec_l01Name.l0 k s i = impl_onlyNameBytes.l0 k s (s.size : Int) i := by
  intro k
  induction k with
  | zero => intro i; simp only [spec_l01Name.l0, impl_onlyNameBytes.l0]
  | succ k ih =>
    intro i
    simp only [spec_l01Name.l0, impl_onlyNameBytes.l0]
    unfold spec_l01Small.f spec_l01Digit.f
    rw [ih]
    generalize impl_onlyNameBytes.l0 k s (s.size : Int) (wrap64 (i + 1)) = e
    generalize bt s i = b
    by_cases h1 : i < (s.size : Int)
    · rw [if_pos h1, if_pos h1, if_pos h1]
      by_cases h2 : 0 ≤ i
      · rw [if_pos h2, if_pos h2]
        by_cases c1 : b < 97
        · rw [if_pos c1, if_neg (by omega)]
          by_cases c2 : b < 48
          · rw [if_pos c2, if_neg (by omega)]; simp
          · rw [if_neg c2, if_pos (by omega)]
            by_cases c3 : b > 57
            · rw [if_pos c3, decide_eq_false (by omega)]; simp
            · rw [if_neg c3, decide_eq_true (by omega)]; simp
        · rw [if_neg c1, if_pos (by omega)]
          by_cases c4 : b > 122
          · rw [if_pos c4, decide_eq_false (by omega), if_pos (by omega), if_neg (by omega), decide_eq_false (by omega), if_pos (by omega)]; simp
          · rw [if_neg c4, decide_eq_true (by omega)]; simp
      · rw [if_neg h2, if_neg h2]
    · rw [if_neg h1, if_neg h1]
theorem name_total (s : ByteArray) (hs : s.size ≤ 35184372088832) : ∀ (d j k : Nat), j + d = s.size → d < k → ∃ r, impl_onlyNameBytes.l0 k s (s.size : Int) (j : Int) = some r := by
  intro d
  induction d with
  | zero =>
    intro j k hj hk
    obtain ⟨k, rfl⟩ := suc_of hk
    simp only [impl_onlyNameBytes.l0]
    rw [if_neg (by omega)]; exact ⟨_, rfl⟩
  | succ d ih =>
    intro j k hj hk
    obtain ⟨k, rfl⟩ := suc_of hk
    obtain ⟨r, hr⟩ := ih (j + 1) k (by omega) (by omega)
    simp only [impl_onlyNameBytes.l0]
    rw [if_pos (by omega), if_pos (by omega), if_pos (by omega), next_nat (n := s.size) (by omega) (by omega), hr]
    split
    · split
      · exact ⟨_, rfl⟩
      · split
        · exact ⟨_, rfl⟩
        · exact ⟨_, rfl⟩
    · split
      · split
        · exact ⟨_, rfl⟩
        · split
          · exact ⟨_, rfl⟩
          · exact ⟨_, rfl⟩
      · exact ⟨_, rfl⟩
/-- A name is one for both. -/
theorem name_both (s : ByteArray) (hs : s.size ≤ 35184372088832) : ∃ b : Bool, (∀ k, s.size + 3 ≤ k → spec_l01Name.f k s = some b) ∧ (∀ k, s.size + 3 ≤ k → impl_IsName.f k s = some b) ∧ (b = true → 1 ≤ s.size ∧ s.size ≤ 10) := by
  obtain ⟨r, hr⟩ := name_total s hs s.size 0 (s.size + 2) (by omega) (by omega)
  have hr3 : impl_onlyNameBytes.l0 (s.size + 3) s (s.size : Int) 0 = some r := impl_onlyNameBytes.mono_l (s.size + 2) s (s.size : Int) 0 r hr
  have hr2 : impl_onlyNameBytes.l0 (s.size + 2) s (s.size : Int) 0 = some r := hr
  have key : ∃ b : Bool, spec_l01Name.f (s.size + 3) s = some b ∧ impl_IsName.f (s.size + 3) s = some b ∧ (b = true → 1 ≤ s.size ∧ s.size ≤ 10) := by
    have bad : spec_l01Name.j0 (s.size + 3) s true = some false := by simp only [spec_l01Name.j0]; simp
    unfold spec_l01Name.f impl_IsName.f impl_onlyNameBytes.f
    by_cases h0 : s.size = 0
    · have e : s.toList = [] := by
        rw [ByteArray.toList_eq]; exact List.eq_nil_of_length_eq_zero (by rw [Array.length_toList]; exact h0)
      rw [if_pos e, if_pos (by omega), bad]; exact ⟨_, rfl, rfl, by simp⟩
    · have e : ¬ s.toList = [] := by
        rw [ByteArray.toList_eq]
        intro h
        have : s.data.toList.length = 0 := by rw [h]; rfl
        rw [Array.length_toList] at this
        exact h0 this
      rw [if_neg e, if_neg (show ¬ (s.size : Int) < 1 by omega)]
      by_cases h1 : (s.size : Int) > 10
      · rw [if_pos h1, if_pos h1, bad]; exact ⟨_, rfl, rfl, by simp⟩
      · rw [if_neg h1, if_neg h1, if_pos (by omega), if_pos (by omega)]
        unfold spec_l01Small.f
        by_cases c1 : bt s 0 < 97
        · rw [if_pos c1, if_neg (by omega)]
          simp only [Option.bind_some, Bool.not_false]
          exact ⟨_, bad, rfl, by simp⟩
        · rw [if_neg c1, if_pos (by omega)]
          by_cases c2 : bt s 0 > 122
          · rw [if_pos c2, decide_eq_false (by omega)]
            simp only [Option.bind_some, Bool.not_false]
            exact ⟨_, bad, rfl, by simp⟩
          · rw [if_neg c2, decide_eq_true (by omega), hr3]
            simp only [Option.bind_some, Bool.not_true]
            refine ⟨r, ?_, rfl, fun _ => by omega⟩
            simp only [spec_l01Name.j0]
            rw [if_neg Bool.false_ne_true, name_same]
            exact hr2
  obtain ⟨b, h1, h2, h3⟩ := key
  exact ⟨b, up (spec_l01Name.mono s) h1, up (impl_IsName.mono s) h2, h3⟩

theorem spec_in (n lo hi : Int) : spec_l00In.f n lo hi = some (decide (lo ≤ n ∧ n ≤ hi)) := by unfold spec_l00In.f; split <;> simp <;> omega
theorem impl_in (n lo hi : Int) : impl_within.f n lo hi = some (decide (lo ≤ n ∧ n ≤ hi)) := by unfold impl_within.f; split <;> simp <;> omega

/-- A pipe is valid for both. -/
theorem pipe_both (s : ByteArray) (a b l w c : Int) (hs : s.size ≤ 35184372088832) : ∃ v : Bool, (∀ k, s.size + 4 ≤ k → spec_l03Ok.f k [(⟨s, a, b, l, w, c⟩ : S42)] = some v) ∧ (∀ k, s.size + 4 ≤ k → impl_ValidPipe.f k s a b l w c = some v) ∧
    (v = true → 1 ≤ s.size ∧ s.size ≤ 10 ∧ 0 ≤ a ∧ a ≤ 15 ∧ 0 ≤ b ∧ b ≤ 15 ∧ a ≠ b ∧ 1 ≤ l ∧ l ≤ 10000 ∧ 20 ≤ w ∧ w ≤ 1000 ∧ 0 ≤ c ∧ c ≤ 5000) := by
  obtain ⟨nb, n1, n2, n3⟩ := name_both s hs
  have key : ∃ v : Bool, (∀ k, s.size + 4 ≤ k → spec_l03Ok.f k [(⟨s, a, b, l, w, c⟩ : S42)] = some v ∧ impl_ValidPipe.f k s a b l w c = some v) ∧
    (v = true → 1 ≤ s.size ∧ s.size ≤ 10 ∧ 0 ≤ a ∧ a ≤ 15 ∧ 0 ≤ b ∧ b ≤ 15 ∧ a ≠ b ∧ 1 ≤ l ∧ l ≤ 10000 ∧ 20 ≤ w ∧ w ≤ 1000 ∧ 0 ≤ c ∧ c ≤ 5000) := by
    refine ⟨nb && decide (0 ≤ a ∧ a ≤ 15) && decide (0 ≤ b ∧ b ≤ 15) && !(a == b) && decide (1 ≤ l ∧ l ≤ 10000) && decide (20 ≤ w ∧ w ≤ 1000) && decide (0 ≤ c ∧ c ≤ 5000), fun k hk => ?_, fun h => ?_⟩
    · obtain ⟨k, rfl⟩ : ∃ k', k = k' + 1 := ⟨k - 1, by omega⟩
      have r0 : rd_T42 [(⟨s, a, b, l, w, c⟩ : S42)] 0 = ⟨s, a, b, l, w, c⟩ := rfl
      have l0 : 0 < (([(⟨s, a, b, l, w, c⟩ : S42)].length : Nat) : Int) := by simp
      have bad : spec_l03Ok.j0 (k + 1) [(⟨s, a, b, l, w, c⟩ : S42)] true = some false := by simp only [spec_l03Ok.j0]; simp
      have good : spec_l03Ok.j0 (k + 1) [(⟨s, a, b, l, w, c⟩ : S42)] false = some (decide (1 ≤ l ∧ l ≤ 10000) && decide (20 ≤ w ∧ w ≤ 1000) && decide (0 ≤ c ∧ c ≤ 5000)) := by
        simp only [spec_l03Ok.j0, r0]
        rw [if_neg Bool.false_ne_true, if_pos l0]
        simp only [spec_in, Option.bind_some]
        cases decide (1 ≤ l ∧ l ≤ 10000) <;> cases decide (20 ≤ w ∧ w ≤ 1000) <;> simp
      unfold spec_l03Ok.f impl_ValidPipe.f impl_nodeOk.f
      rw [r0, if_pos l0, n1 (k + 1) (by omega), n2 (k + 1) (by omega)]
      simp only [spec_in, impl_in, Option.bind_some]
      cases nb
      · simp [bad]
      · cases decide (0 ≤ a ∧ a ≤ 15)
        · simp [bad]
        · cases decide (0 ≤ b ∧ b ≤ 15)
          · simp [bad]
          · by_cases e : a = b
            · subst e; simp [bad]
            · have e' : (a == b) = false := by simpa using e
              rw [e', good]
              simp only [if_true, if_neg e, Bool.not_false, Bool.true_and]
              cases decide (1 ≤ l ∧ l ≤ 10000) <;> cases decide (20 ≤ w ∧ w ≤ 1000) <;> simp
    · simp only [Bool.and_eq_true, decide_eq_true_eq, Bool.not_eq_true', beq_eq_false_iff_ne] at h
      have := n3 h.1.1.1.1.1.1
      obtain ⟨⟨⟨⟨⟨⟨h1, h2⟩, h3⟩, h4⟩, h5⟩, h6⟩, h7⟩ := h
      exact ⟨this.1, this.2, h2.1, h2.2, h3.1, h3.2, h4, h5.1, h5.2, h6.1, h6.2, h7.1, h7.2⟩
  obtain ⟨v, h1, h2⟩ := key
  exact ⟨v, fun k hk => (h1 k hk).1, fun k hk => (h1 k hk).2, h2⟩

def rdiv (a b : Int) : Int := if a < 0 then -((b - 2 * a) / (2 * b)) else (2 * a + b) / (2 * b)
theorem rdiv_pos_eq {q r b : Int} (hb : 0 < b) (h0 : 0 ≤ r) (h1 : r < b) : (2 * (b * q + r) + b) / (2 * b) = if r ≥ b - r then q + 1 else q := by
  have e : 2 * (b * q + r) + b = (2 * r + b) + (2 * b) * q := by rw [Int.mul_add, ← Int.mul_assoc]; omega
  rw [e, Int.add_mul_ediv_left _ _ (by omega : (2 * b : Int) ≠ 0)]
  split
  · have : (2 * r + b) / (2 * b) = 1 := by
      have e2 : 2 * r + b = (2 * r - b) + (2 * b) * 1 := by omega
      rw [e2, Int.add_mul_ediv_left _ _ (by omega : (2 * b : Int) ≠ 0), Int.ediv_eq_zero_of_lt (by omega) (by omega)]; rfl
    omega
  · have : (2 * r + b) / (2 * b) = 0 := Int.ediv_eq_zero_of_lt (by omega) (by omega)
    omega
theorem spec_div {a b : Int} (hb : 0 < b) (hb2 : b ≤ 2305843009213693951) (ha : -2305843009213693951 ≤ a) (ha2 : a ≤ 2305843009213693951) : spec_l01Div.f a b = some (rdiv a b) := by
  unfold spec_l01Div.f rdiv
  have w2 : wrap64 (2 * b) = 2 * b := wrap_id (by omega) (by omega)
  have h2b : (0 : Int) < 2 * b := by omega
  rw [if_neg (by omega), w2]
  by_cases h : a < 0
  · rw [if_pos h, if_pos h, if_neg (by omega)]
    have e1 : wrap64 (2 * a) = 2 * a := wrap_id (by omega) (by omega)
    have e2 : wrap64 (b - 2 * a) = b - 2 * a := wrap_id (by omega) (by omega)
    rw [e1, e2, Int.tdiv_eq_ediv_of_nonneg (by omega)]
    have b1 : 0 ≤ (b - 2 * a) / (2 * b) := Int.ediv_nonneg (by omega) (by omega)
    have b2 : (b - 2 * a) / (2 * b) ≤ b - 2 * a := Int.ediv_le_self _ (by omega)
    have e3 : wrap64 ((b - 2 * a) / (2 * b)) = (b - 2 * a) / (2 * b) := wrap_id (by omega) (by omega)
    have e4 : wrap64 (-((b - 2 * a) / (2 * b))) = -((b - 2 * a) / (2 * b)) := wrap_id (by omega) (by omega)
    rw [e3, e4]
  · rw [if_neg h, if_neg h, if_neg (by omega)]
    have e1 : wrap64 (2 * a) = 2 * a := wrap_id (by omega) (by omega)
    have e2 : wrap64 (2 * a + b) = 2 * a + b := wrap_id (by omega) (by omega)
    rw [e1, e2, Int.tdiv_eq_ediv_of_nonneg (by omega)]
    have b1 : 0 ≤ (2 * a + b) / (2 * b) := Int.ediv_nonneg (by omega) (by omega)
    have b2 : (2 * a + b) / (2 * b) ≤ 2 * a + b := Int.ediv_le_self _ (by omega)
    rw [wrap_id (by omega) (by omega)]
theorem abs_def {a : Int} (h : -9223372036854775807 ≤ a) (h2 : a ≤ 9223372036854775807) : impl_abs.f a = some (if a < 0 then -a else a) := by
  unfold impl_abs.f mx
  rw [wrap_id (by omega) (by omega)]
  split <;> split <;> first | rfl | (simp; omega)
theorem impl_div {a b : Int} (hb : 0 < b) (hb2 : b ≤ 2305843009213693951) (ha : -2305843009213693951 ≤ a) (ha2 : a ≤ 2305843009213693951) : impl_divRound.f a b = some (rdiv a b) := by
  unfold impl_divRound.f
  rw [if_neg (by omega)]
  by_cases h : a < 0
  · have hq0 : a.tdiv b = -((-a) / b) := by rw [← Int.tdiv_eq_ediv_of_nonneg (by omega), Int.neg_tdiv, Int.neg_neg]
    have hr0 : a.tmod b = -((-a) % b) := by rw [← Int.tmod_eq_emod_of_nonneg (by omega), Int.neg_tmod, Int.neg_neg]
    have hr1 := Int.emod_nonneg (-a) (show b ≠ 0 by omega)
    have hr2 := Int.emod_lt_of_pos (-a) hb
    have hd := Int.mul_ediv_add_emod (-a) b
    have hq1 : 0 ≤ (-a) / b := Int.ediv_nonneg (by omega) (by omega)
    have hq2 : (-a) / b ≤ -a := Int.ediv_le_self _ (by omega)
    rw [hq0, hr0]
    generalize (-a) / b = q at *
    generalize (-a) % b = r at *
    rw [abs_def (by omega) (by omega), abs_def (by omega) (by omega)]
    simp only [Option.bind_some]
    have e1 : (if -r < 0 then - -r else -r) = r := by split <;> omega
    have e2 : (if b < 0 then -b else b) = b := by rw [if_neg (by omega)]
    rw [e1, e2, wrap_id (x := b - r) (by omega) (by omega)]
    have hk : rdiv a b = -(if r ≥ b - r then q + 1 else q) := by
      unfold rdiv
      rw [if_pos h, ← rdiv_pos_eq (q := q) hb hr1 hr2, hd]
      congr 2; omega
    rw [hk]
    have w1 : wrap64 (-q) = -q := wrap_id (by omega) (by omega)
    rw [w1]
    by_cases hc : r ≥ b - r
    · rw [if_pos hc, if_pos hc, if_neg (by simp; omega), wrap_id (by omega) (by omega)]
      congr 1; omega
    · rw [if_neg hc, if_neg hc]
  · have hq0 : a.tdiv b = a / b := Int.tdiv_eq_ediv_of_nonneg (by omega)
    have hr0 : a.tmod b = a % b := Int.tmod_eq_emod_of_nonneg (by omega)
    have hr1 := Int.emod_nonneg a (show b ≠ 0 by omega)
    have hr2 := Int.emod_lt_of_pos a hb
    have hd := Int.mul_ediv_add_emod a b
    have hq1 : 0 ≤ a / b := Int.ediv_nonneg (by omega) (by omega)
    have hq2 : a / b ≤ a := Int.ediv_le_self _ (by omega)
    rw [hq0, hr0]
    generalize a / b = q at *
    generalize a % b = r at *
    rw [abs_def (by omega) (by omega), abs_def (by omega) (by omega)]
    simp only [Option.bind_some]
    have e1 : (if r < 0 then - r else r) = r := by rw [if_neg (by omega)]
    have e2 : (if b < 0 then -b else b) = b := by rw [if_neg (by omega)]
    rw [e1, e2, wrap_id (x := b - r) (by omega) (by omega)]
    have hk : rdiv a b = (if r ≥ b - r then q + 1 else q) := by
      unfold rdiv
      rw [if_neg h, ← rdiv_pos_eq (q := q) hb hr1 hr2, hd]
    rw [hk]
    have w1 : wrap64 q = q := wrap_id (by omega) (by omega)
    rw [w1]
    by_cases hc : r ≥ b - r
    · rw [if_pos hc, if_pos hc, if_pos (by simp; omega), wrap_id (by omega) (by omega)]
    · rw [if_neg hc, if_neg hc]
theorem rdiv_nonneg {a b : Int} (ha : 0 ≤ a) (hb : 0 < b) : 0 ≤ rdiv a b := by
  unfold rdiv; rw [if_neg (by omega)]; exact Int.ediv_nonneg (by omega) (by omega)
theorem rdiv_le {a b : Int} (ha : 0 ≤ a) (hb : 0 < b) : rdiv a b ≤ 2 * a + b := by
  unfold rdiv; rw [if_neg (by omega)]; exact Int.ediv_le_self _ (by omega)

theorem impl_code {s : ByteArray} {a b l w c : Int} {v : Bool} {k : Nat} {q : Int} {ts : List Int} (hv : impl_ValidPipe.f k s a b l w c = some v) : impl_Pipe_code.f k s a b l w c q ts = some (if v = true then (if (-100000 ≤ q ∧ q ≤ 100000) ∧ (ts.all fun x => decide (-5000 ≤ x ∧ x ≤ 20000)) = true then 0 else 2) else 1) := by
  unfold impl_Pipe_code.f impl_flowOk.f impl_allWithin.f
  simp only [hv, impl_in, Option.bind_some]
  cases v
  · rfl
  · by_cases h : -100000 ≤ q ∧ q ≤ 100000
    · have e : decide (-100000 ≤ q ∧ q ≤ 100000) = true := decide_eq_true h
      rw [e]
      cases (ts.all fun x => decide (-5000 ≤ x ∧ x ≤ 20000)) <;> simp [h]
    · have e : decide (-100000 ≤ q ∧ q ≤ 100000) = false := decide_eq_false h
      rw [e]; simp [h]

theorem spec_ask {s : ByteArray} {a b l w c : Int} {v : Bool} {k : Nat} {q : Int} (hv : spec_l03Ok.f k [(⟨s, a, b, l, w, c⟩ : S42)] = some v) : spec_l03Ask.f k [(⟨s, a, b, l, w, c⟩ : S42)] q = some (if v = true then (if -100000 ≤ q ∧ q ≤ 100000 then 0 else 2) else 1) := by
  unfold spec_l03Ask.f spec_l03Flow.f
  simp only [hv, spec_in, Option.bind_some]
  cases v
  · rfl
  · by_cases h : -100000 ≤ q ∧ q ≤ 100000
    · have e : decide (-100000 ≤ q ∧ q ≤ 100000) = true := decide_eq_true h
      rw [e]; simp [h]
    · have e : decide (-100000 ≤ q ∧ q ≤ 100000) = false := decide_eq_false h
      rw [e]; simp [h]

theorem szPipe_def (s : ByteArray) (a b l w c : Int) (n : Int) (h : s.size ≤ maxLen) (hn : 0 ≤ n) (hn2 : n ≤ 1048576) : laws_szPipe.f s a b l w c n = some (if n < (s.size : Int) then -1 else n - (s.size : Int)) := by
  unfold laws_szPipe.f
  simp only [maxLen] at h
  rw [wrap_id (by omega) (by omega)]
  split <;> split <;> first | rfl | omega

theorem rdiv_abs {a b A : Int} (hb : 0 < b) (h1 : -A ≤ a) (h2 : a ≤ A) : -(2 * A + b) ≤ rdiv a b ∧ rdiv a b ≤ 2 * A + b := by
  unfold rdiv
  by_cases h : a < 0
  · rw [if_pos h]
    have b1 : 0 ≤ (b - 2 * a) / (2 * b) := Int.ediv_nonneg (by omega) (by omega)
    have b2 : (b - 2 * a) / (2 * b) ≤ b - 2 * a := Int.ediv_le_self _ (by omega)
    omega
  · rw [if_neg h]
    have b1 : 0 ≤ (2 * a + b) / (2 * b) := Int.ediv_nonneg (by omega) (by omega)
    have b2 : (2 * a + b) / (2 * b) ≤ 2 * a + b := Int.ediv_le_self _ (by omega)
    omega

theorem spec_abs {x : Int} (h1 : -9223372036854775807 ≤ x) (h2 : x ≤ 9223372036854775807) : spec_l03Abs.f x = some (if x < 0 then -x else x) := by
  unfold spec_l03Abs.f spec_l00Max.f
  rw [wrap_id (x := -x) (by omega) (by omega)]
  by_cases h : x < 0
  · rw [if_neg (by omega), if_pos h]; rfl
  · rw [if_neg h]
    by_cases h0 : x > -x
    · rw [if_pos h0]; rfl
    · rw [if_neg h0]; simp only [Option.bind_some]; congr 1; omega

theorem loss_bounds {c l t g : Int} (h1 : 0 ≤ c) (h2 : c ≤ 5000) (h3 : 1 ≤ l) (h4 : l ≤ 10000) (h5 : -5000 ≤ t ∧ t ≤ 20000) (h6 : -5000 ≤ g ∧ g ≤ 20000) : 0 ≤ c * l ∧ c * l ≤ 50000000 ∧ -1250000000000 ≤ c * l * (t - g) ∧ c * l * (t - g) ≤ 1250000000000 := by
  have m1 := mul_bounds (a := c) (b := l) (A := 5000) (B := 10000) h1 h2 (by omega) h4 (by omega)
  have m0 := mul_nonneg' h1 (show 0 ≤ l by omega)
  have m2 := mul_bounds (a := c * l) (b := t - g) (A := 50000000) (B := 25000) m0 (by omega) (by omega) (by omega) (by omega)
  omega
theorem impl_loss {s : ByteArray} {a b l w c t g : Int} (h1 : 0 ≤ c) (h2 : c ≤ 5000) (h3 : 1 ≤ l) (h4 : l ≤ 10000) (h5 : -5000 ≤ t ∧ t ≤ 20000) (h6 : -5000 ≤ g ∧ g ≤ 20000) : impl_Pipe_loss.f s a b l w c t g = some (rdiv (c * l * (t - g)) 100000) := by
  have m := loss_bounds h1 h2 h3 h4 h5 h6
  unfold impl_Pipe_loss.f
  rw [wrap_id (x := c * l) (by omega) (by omega), wrap_id (x := t - g) (by omega) (by omega), wrap_id (x := c * l * (t - g)) (by omega) (by omega), impl_div (by omega) (by omega) (by omega) (by omega)]
  rfl

theorem FnExactEndTemperature : laws_FnExactEndTemperature.Pure := by
  intro x q t g hx _ _ _
  obtain ⟨s, a, b, l, w, c⟩ := x
  have hs : s.size ≤ maxLen := hx.1
  obtain ⟨K, hK⟩ : ∃ K, K = 1048600 := ⟨_, rfl⟩
  refine ⟨K + 1, ?_⟩
  unfold laws_FnExactEndTemperature.f
  rw [szPipe_def s a b l w c 1048576 hs (by omega) (by omega)]
  simp only [Option.bind_some]
  by_cases h : (1048576 : Int) < (s.size : Int)
  · rw [if_pos h]; rfl
  · rw [if_neg h, if_neg (by omega)]
    unfold laws_toPipe.f
    simp only [Option.bind_some]
    obtain ⟨v, v1, v2, v3⟩ := pipe_both s a b l w c (by omega)
    have bad : spec_EndTemperature.j0 (K + 1) q t g true s a b l w c = some (0, 2) := by simp only [spec_EndTemperature.j0]; simp
    have key : ∃ r, spec_EndTemperature.f (K + 1) s a b l w c q t g = some r ∧ impl_EndTemperature.f (K + 1) s a b l w c q t g = some r := by
      unfold spec_EndTemperature.f impl_EndTemperature.f spec_l03Degrees.f
      rw [spec_ask (v1 _ (by omega)), impl_code (v2 _ (by omega))]
      simp only [spec_in, Option.bind_some, List.all_cons, List.all_nil]
      cases v
      · exact ⟨_, rfl, rfl⟩
      · have p := v3 rfl
        by_cases hq : -100000 ≤ q ∧ q ≤ 100000
        · by_cases ht : -5000 ≤ t ∧ t ≤ 20000
          · by_cases hg : -5000 ≤ g ∧ g ≤ 20000
            · have m := loss_bounds p.2.2.2.2.2.2.2.2.2.2.2.1 p.2.2.2.2.2.2.2.2.2.2.2.2 p.2.2.2.2.2.2.2.1 p.2.2.2.2.2.2.2.2.1 ht hg
              have il := impl_loss (s := s) (a := a) (b := b) (w := w) p.2.2.2.2.2.2.2.2.2.2.2.1 p.2.2.2.2.2.2.2.2.2.2.2.2 p.2.2.2.2.2.2.2.1 p.2.2.2.2.2.2.2.2.1 ht hg
              clear p v1 v2 v3 bad
              have e : spec_l03Loss.f [(⟨s, a, b, l, w, c⟩ : S42)] t g = some (rdiv (c * l * (t - g)) 100000) := by
                unfold spec_l03Loss.f
                rw [show rd_T42 [(⟨s, a, b, l, w, c⟩ : S42)] 0 = ⟨s, a, b, l, w, c⟩ from rfl, if_pos (by simp)]
                simp only
                rw [wrap_id (x := c * l) (by omega) (by omega), wrap_id (x := t - g) (by omega) (by omega), wrap_id (x := c * l * (t - g)) (by omega) (by omega), spec_div (by omega) (by omega) (by omega) (by omega)]
                rfl
              have ra := rdiv_abs (a := c * l * (t - g)) (b := 100000) (A := 1250000000000) (by omega) (by omega) (by omega)
              generalize rdiv (c * l * (t - g)) 100000 = L at *
              have eq1 : decide (-5000 ≤ t ∧ t ≤ 20000) = true := decide_eq_true ht
              have eq2 : decide (-5000 ≤ g ∧ g ≤ 20000) = true := decide_eq_true hg
              simp only [eq1, eq2]
              simp only [if_true, if_pos hq, Bool.and_self, Bool.not_true, and_true, spec_EndTemperature.j0]
              rw [if_neg Bool.false_ne_true]
              unfold impl_Pipe_endTemperature.f
              by_cases h0 : q = 0
              · rw [if_pos h0, if_pos h0]; exact ⟨_, rfl, rfl⟩
              · rw [if_neg h0, if_neg h0]
                unfold spec_l03End.f
                rw [e, il]
                simp only [Option.bind_some]
                rw [spec_abs (by omega) (by omega), abs_def (by omega) (by omega)]
                simp only [Option.bind_some]
                have hz : 1 ≤ (if q < 0 then -q else q) ∧ (if q < 0 then -q else q) ≤ 100000 := by split <;> omega
                generalize (if q < 0 then -q else q) = z at hz ⊢
                rw [Int.mul_comm 100000 L, Int.mul_comm 4186 z, wrap_id (x := L * 100000) (by omega) (by omega), wrap_id (x := z * 4186) (by omega) (by omega), spec_div (by omega) (by omega) (by omega) (by omega), impl_div (by omega) (by omega) (by omega) (by omega)]
                have rb := rdiv_abs (a := L * 100000) (b := z * 4186) (A := 250000010000000000) (by omega) (by omega) (by omega)
                generalize rdiv (L * 100000) (z * 4186) = R at *
                simp only [Option.bind_some]
                rw [wrap_id (x := t - R) (by omega) (by omega)]
                unfold spec_l00Max.f spec_l00Min.f mx mn
                by_cases hc : t ≥ g
                · rw [if_pos hc, if_pos hc]
                  by_cases h5 : g > t - R
                  · rw [if_pos h5, if_pos (by omega)]; exact ⟨_, rfl, rfl⟩
                  · rw [if_neg h5, if_neg (by omega)]; exact ⟨_, rfl, rfl⟩
                · rw [if_neg hc, if_neg hc]
                  by_cases h5 : g < t - R
                  · rw [if_pos h5, if_pos (by omega)]; exact ⟨_, rfl, rfl⟩
                  · rw [if_neg h5, if_neg (by omega)]; exact ⟨_, rfl, rfl⟩
            · have eq1 : decide (-5000 ≤ t ∧ t ≤ 20000) = true := decide_eq_true ht
              have eq2 : decide (-5000 ≤ g ∧ g ≤ 20000) = false := decide_eq_false hg
              simp only [eq1, eq2]
              simp [hq, bad]
          · have eq1 : decide (-5000 ≤ t ∧ t ≤ 20000) = false := decide_eq_false ht
            simp only [eq1]
            simp [hq, bad]
        · simp [hq]
    obtain ⟨r, h1, h2⟩ := key
    rw [h1, h2]; simp

end Go.Proofs.Ytaomflfofihknaa.Pure
