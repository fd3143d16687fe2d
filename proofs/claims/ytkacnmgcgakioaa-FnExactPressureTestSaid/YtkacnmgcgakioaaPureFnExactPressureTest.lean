/- PressureTest of the program returns what the reference's returns, for all times and pressures. No condition. -/
import Derived.Test.YtkacnmgcgakioaaPFnExactPressureTestx3
namespace Go.Proofs.Ytkacnmgcgakioaa.Pure
open Go.RowKit Go.Proofs.Ytkacnmgcgakioaa.PFnExactPressureTest Go.Proofs.YtkacnmgcgakioaaW.PrintWords Go.Proofs.YtkacnmgcgakioaaW.PrintLast Go.Proofs.YtkacnmgcgakioaaW.PrintMore

theorem wrap_id {x : Int} (h1 : -9223372036854775808 ≤ x) (h2 : x ≤ 9223372036854775807) : wrap64 x = x := by unfold wrap64; omega
theorem wf_i64 {x : Int} (h : (Lit.int .i64 x).wf = true) : -9223372036854775808 ≤ x ∧ x ≤ 9223372036854775807 := by
  simp [Lit.wf, IntKind.min, IntKind.max, IntKind.bits, IntKind.signed] at h; omega
theorem mul_bounds {a b A B : Int} (h0 : 0 ≤ a) (hA : a ≤ A) (h1 : -B ≤ b) (h2 : b ≤ B) (hB : 0 ≤ B) : -(A * B) ≤ a * b ∧ a * b ≤ A * B := by
  have e1 := Int.mul_le_mul_of_nonneg_left h2 h0
  have e2 := Int.mul_le_mul_of_nonneg_right hA hB
  have e3 := Int.mul_le_mul_of_nonneg_left h1 h0
  have e4 : a * -B = -(a * B) := Int.mul_neg a B
  omega
theorem next_nat {j n : Nat} (h : j < n) (hn : n ≤ 4611686018427387904) : wrap64 ((j : Int) + 1) = ((j + 1 : Nat) : Int) := by
  rw [wrap_id (by omega) (by omega)]; omega
theorem rd_nat (l : List Int) (j : Nat) : rd l (j : Int) = l.getD j 0 := by unfold rd; simp
theorem ifp {α : Type} {c : Prop} [Decidable c] {a b : α} (h : c) : (if c then a else b) = a := if_pos h
theorem ifn {α : Type} {c : Prop} [Decidable c] {a b : α} (h : ¬ c) : (if c then a else b) = b := if_neg h
theorem suc_of {k d : Nat} (h : d < k) : ∃ m, k = m + 1 := ⟨k - 1, by omega⟩
theorem getD_lt {α : Type} {l : List α} {j : Nat} {d : α} (h : j < l.length) : l.getD j d = l[j] := by
  rw [List.getD_eq_getElem?_getD, List.getElem?_eq_getElem h]; rfl
theorem drop_cons {α : Type} (l : List α) {j : Nat} (h : j < l.length) (d : α) : l.drop j = l.getD j d :: l.drop (j + 1) := by
  rw [getD_lt h]; exact List.drop_eq_getElem_cons h

theorem toI_l0 (l : List Int) (hl : l.length ≤ 35184372088832) : ∀ (d j k : Nat) (m : List Int), j + d = l.length → d < k → m.length = l.length → (∀ i, i < j → m[i]? = l[i]?) → laws_toInt64S.l0 k l m (j : Int) = some l := by
  intro d
  induction d with
  | zero =>
    intro j k m hj hk hm hp
    obtain ⟨k, rfl⟩ := suc_of hk
    simp only [laws_toInt64S.l0]
    rw [if_neg (by omega)]
    congr 1
    apply List.ext_getElem?
    intro i
    by_cases hi : i < j
    · exact hp i hi
    · rw [List.getElem?_eq_none (by omega), List.getElem?_eq_none (by omega)]
  | succ d ih =>
    intro j k m hj hk hm hp
    obtain ⟨k, rfl⟩ := suc_of hk
    simp only [laws_toInt64S.l0]
    rw [if_pos (by omega), if_pos (by omega), if_pos (by omega), next_nat (n := l.length) (by omega) (by omega)]
    refine ih (j + 1) k _ (by omega) (by omega) (by simpa using hm) (fun i hi => ?_)
    rw [Int.toNat_natCast, rd_nat, List.getElem?_set]
    by_cases e : j = i
    · subst e
      rw [if_pos rfl, if_pos (by omega), getD_lt (by omega), List.getElem?_eq_getElem (by omega)]
    · rw [if_neg e]; exact hp i (by omega)
theorem toI (l : List Int) (hl : l.length ≤ 35184372088832) (k : Nat) (hk : l.length < k) : laws_toInt64S.f k l = some l := by
  unfold laws_toInt64S.f
  rw [if_pos (by omega), if_pos (by omega)]
  exact toI_l0 l hl l.length 0 k _ (by omega) hk (by simp) (fun i hi => absurd hi (by omega))

theorem eqI_l0 (l : List Int) (hl : l.length ≤ 35184372088832) : ∀ (d j k : Nat), j + d = l.length → d < k → laws_eqInt64S.l0 k l l (j : Int) = some true := by
  intro d
  induction d with
  | zero =>
    intro j k hj hk
    obtain ⟨k, rfl⟩ := suc_of hk
    simp only [laws_eqInt64S.l0]
    rw [if_neg (by omega)]
  | succ d ih =>
    intro j k hj hk
    obtain ⟨k, rfl⟩ := suc_of hk
    simp only [laws_eqInt64S.l0]
    rw [if_pos (by omega), if_pos (by omega), if_pos (by omega), if_pos trivial, next_nat (n := l.length) (by omega) (by omega)]
    exact ih (j + 1) k (by omega) (by omega)
theorem eqI (l : List Int) (hl : l.length ≤ 35184372088832) (k : Nat) (hk : l.length < k) : laws_eqInt64S.f k l l = some true := by
  unfold laws_eqInt64S.f
  rw [if_pos rfl]
  exact eqI_l0 l hl l.length 0 k (by omega) hk

theorem spec_in (n lo hi : Int) : spec_l00In.f n lo hi = some (decide (lo ≤ n ∧ n ≤ hi)) := by unfold spec_l00In.f; split <;> simp <;> omega
theorem impl_in (n lo hi : Int) : impl_within.f n lo hi = some (decide (lo ≤ n ∧ n ≤ hi)) := by unfold impl_within.f; split <;> simp <;> omega

def inc : List Int → Bool
  | a :: b :: t => decide (a < b) && inc (b :: t)
  | _ => true
theorem inc_cons {l : List Int} {j : Nat} (h : j + 1 < l.length) : inc (l.drop j) = (decide (l.getD j 0 < l.getD (j + 1) 0) && inc (l.drop (j + 1))) := by
  rw [drop_cons l (by omega : j < l.length) 0, drop_cons l h 0]
  simp only [inc]
theorem inc_last {l : List Int} {j : Nat} (h : l.length ≤ j + 1) : inc (l.drop j) = true := by
  rcases Nat.lt_or_ge j l.length with h1 | h1
  · rw [drop_cons l h1 0, List.drop_eq_nil_of_le (by omega)]; rfl
  · rw [List.drop_eq_nil_of_le h1]; rfl
theorem impl_inc_l0 (l : List Int) (hl : l.length ≤ 35184372088832) : ∀ (d j k : Nat), j + 1 + d = l.length → d < k → impl_increasing.l0 k l ((j + 1 : Nat) : Int) = some (inc (l.drop j)) := by
  intro d
  induction d with
  | zero =>
    intro j k hj hk
    obtain ⟨k, rfl⟩ := suc_of hk
    simp only [impl_increasing.l0]
    rw [if_neg (by omega), inc_last (by omega)]
  | succ d ih =>
    intro j k hj hk
    obtain ⟨k, rfl⟩ := suc_of hk
    simp only [impl_increasing.l0]
    have e : wrap64 (((j + 1 : Nat) : Int) - 1) = (j : Int) := by rw [wrap_id (by omega) (by omega)]; omega
    rw [e, if_pos (by omega), if_pos (by omega), if_pos (by omega), if_pos (by omega), rd_nat, rd_nat, inc_cons (by omega)]
    by_cases h : l.getD (j + 1) 0 ≤ l.getD j 0
    · rw [if_pos h, decide_eq_false (by omega), Bool.false_and]
    · rw [if_neg h, decide_eq_true (by omega), Bool.true_and, next_nat (n := l.length) (by omega) (by omega)]
      exact ih (j + 1) k (by omega) (by omega)
theorem impl_inc (l : List Int) (hl : l.length ≤ 35184372088832) (k : Nat) (hk : l.length < k) : impl_increasing.f k l = some (inc l) := by
  unfold impl_increasing.f
  rcases Nat.eq_zero_or_pos l.length with h | h
  · obtain ⟨k, rfl⟩ := suc_of hk
    simp only [impl_increasing.l0]
    rw [if_neg (by omega), List.eq_nil_of_length_eq_zero h]; rfl
  · exact impl_inc_l0 l hl (l.length - 1) 0 k (by omega) (by omega)

theorem spec_rises_l0 (l : List Int) (hl : l.length ≤ 35184372088832) (lo hi : Int) : ∀ (d j k : Nat), j + d = l.length → d < k → spec_l00Rises.l0 k l lo hi (j : Int) = some ((l.drop j).all (fun x => decide (lo ≤ x ∧ x ≤ hi)) && inc (l.drop (j - 1))) := by
  intro d
  induction d with
  | zero =>
    intro j k hj hk
    obtain ⟨k, rfl⟩ := suc_of hk
    simp only [spec_l00Rises.l0]
    rw [if_neg (by omega), inc_last (by omega), List.drop_eq_nil_of_le (by omega)]; rfl
  | succ d ih =>
    intro j k hj hk
    obtain ⟨k, rfl⟩ := suc_of hk
    simp only [spec_l00Rises.l0]
    have hn : wrap64 ((j : Int) + 1) = ((j + 1 : Nat) : Int) := next_nat (n := l.length) (by omega) (by omega)
    rw [if_pos (by omega), if_pos (by omega), spec_in, rd_nat, drop_cons l (by omega : j < l.length) 0, List.all_cons, Option.bind_some, hn]
    by_cases h1 : lo ≤ l.getD j 0 ∧ l.getD j 0 ≤ hi
    · rw [decide_eq_true h1, if_pos rfl, Bool.true_and]
      rcases Nat.eq_zero_or_pos j with h0 | h0
      · subst h0
        rw [if_neg (by omega)]
        have := ih 1 k (by omega) (by omega)
        simpa using this
      · have e : wrap64 ((j : Int) - 1) = ((j - 1 : Nat) : Int) := by rw [wrap_id (by omega) (by omega)]; omega
        rw [if_pos (by omega), e, if_pos (by omega), if_pos (by omega), rd_nat]
        have hc := inc_cons (l := l) (j := j - 1) (by omega)
        rw [show j - 1 + 1 = j by omega] at hc
        rw [hc]
        by_cases h2 : l.getD (j - 1) 0 ≥ l.getD j 0
        · rw [if_pos h2, decide_eq_false (by omega), Bool.false_and, Bool.and_false]
        · rw [if_neg h2, decide_eq_true (by omega), Bool.true_and, ih (j + 1) k (by omega) (by omega)]; rfl
    · rw [decide_eq_false h1, if_neg (by simp), Bool.false_and, Bool.false_and]
theorem spec_rises (l : List Int) (hl : l.length ≤ 35184372088832) (lo hi : Int) (k : Nat) (hk : l.length < k) : spec_l00Rises.f k l lo hi = some (l.all (fun x => decide (lo ≤ x ∧ x ≤ hi)) && inc l) := by
  unfold spec_l00Rises.f
  have := spec_rises_l0 l hl lo hi l.length 0 k (by omega) hk
  simpa using this

def rdiv (a b : Int) : Int := if a < 0 then -((b - 2 * a) / (2 * b)) else (2 * a + b) / (2 * b)
theorem rdiv_pos_eq {q r b : Int} (hb : 0 < b) (h0 : 0 ≤ r) (h1 : r < b) : (2 * (b * q + r) + b) / (2 * b) = if r ≥ b - r then q + 1 else q := by
  have e : 2 * (b * q + r) + b = (2 * r + b) + (2 * b) * q := by rw [Int.mul_add, ← Int.mul_assoc]; omega
  rw [e, Int.add_mul_ediv_left _ _ (by omega : (2 * b : Int) ≠ 0)]
  split
  · have : (2 * r + b) / (2 * b) = 1 := by
      have e2 : 2 * r + b = (2 * r - b) + (2 * b) * 1 := by omega
      rw [e2, Int.add_mul_ediv_left _ _ (by omega : (2 * b : Int) ≠ 0), Int.ediv_eq_zero_of_lt (by omega) (by omega)]; rfl
    omega
  · have : (2 * r + b) / (2 * b) = 0 := Int.ediv_eq_zero_of_lt (by omega) (by omega)
    omega
theorem spec_div {a b : Int} (hb : 0 < b) (hb2 : b ≤ 2305843009213693951) (ha : -2305843009213693951 ≤ a) (ha2 : a ≤ 2305843009213693951) : spec_l01Div.f a b = some (rdiv a b) := by
  unfold spec_l01Div.f rdiv
  have w2 : wrap64 (2 * b) = 2 * b := wrap_id (by omega) (by omega)
  have h2b : (0 : Int) < 2 * b := by omega
  rw [if_neg (by omega), w2]
  by_cases h : a < 0
  · rw [if_pos h, if_pos h, if_neg (by omega)]
    have e1 : wrap64 (2 * a) = 2 * a := wrap_id (by omega) (by omega)
    have e2 : wrap64 (b - 2 * a) = b - 2 * a := wrap_id (by omega) (by omega)
    rw [e1, e2, Int.tdiv_eq_ediv_of_nonneg (by omega)]
    have b1 : 0 ≤ (b - 2 * a) / (2 * b) := Int.ediv_nonneg (by omega) (by omega)
    have b2 : (b - 2 * a) / (2 * b) ≤ b - 2 * a := Int.ediv_le_self _ (by omega)
    have e3 : wrap64 ((b - 2 * a) / (2 * b)) = (b - 2 * a) / (2 * b) := wrap_id (by omega) (by omega)
    have e4 : wrap64 (-((b - 2 * a) / (2 * b))) = -((b - 2 * a) / (2 * b)) := wrap_id (by omega) (by omega)
    rw [e3, e4]
  · rw [if_neg h, if_neg h, if_neg (by omega)]
    have e1 : wrap64 (2 * a) = 2 * a := wrap_id (by omega) (by omega)
    have e2 : wrap64 (2 * a + b) = 2 * a + b := wrap_id (by omega) (by omega)
    rw [e1, e2, Int.tdiv_eq_ediv_of_nonneg (by omega)]
    have b1 : 0 ≤ (2 * a + b) / (2 * b) := Int.ediv_nonneg (by omega) (by omega)
    have b2 : (2 * a + b) / (2 * b) ≤ 2 * a + b := Int.ediv_le_self _ (by omega)
    rw [wrap_id (by omega) (by omega)]
theorem abs_def {a : Int} (h : -9223372036854775807 ≤ a) (h2 : a ≤ 9223372036854775807) : impl_abs.f a = some (if a < 0 then -a else a) := by
  unfold impl_abs.f mx
  rw [wrap_id (by omega) (by omega)]
  split <;> split <;> first | rfl | (simp; omega)
theorem impl_div {a b : Int} (hb : 0 < b) (hb2 : b ≤ 2305843009213693951) (ha : -2305843009213693951 ≤ a) (ha2 : a ≤ 2305843009213693951) : impl_divRound.f a b = some (rdiv a b) := by
  unfold impl_divRound.f
  rw [if_neg (by omega)]
  by_cases h : a < 0
  · have hq0 : a.tdiv b = -((-a) / b) := by rw [← Int.tdiv_eq_ediv_of_nonneg (by omega), Int.neg_tdiv, Int.neg_neg]
    have hr0 : a.tmod b = -((-a) % b) := by rw [← Int.tmod_eq_emod_of_nonneg (by omega), Int.neg_tmod, Int.neg_neg]
    have hr1 := Int.emod_nonneg (-a) (show b ≠ 0 by omega)
    have hr2 := Int.emod_lt_of_pos (-a) hb
    have hd := Int.mul_ediv_add_emod (-a) b
    have hq1 : 0 ≤ (-a) / b := Int.ediv_nonneg (by omega) (by omega)
    have hq2 : (-a) / b ≤ -a := Int.ediv_le_self _ (by omega)
    rw [hq0, hr0]
    generalize (-a) / b = q at *
    generalize (-a) % b = r at *
    rw [abs_def (by omega) (by omega), abs_def (by omega) (by omega)]
    simp only [Option.bind_some]
    have e1 : (if -r < 0 then - -r else -r) = r := by split <;> omega
    have e2 : (if b < 0 then -b else b) = b := by rw [if_neg (by omega)]
    rw [e1, e2, wrap_id (x := b - r) (by omega) (by omega)]
    have hk : rdiv a b = -(if r ≥ b - r then q + 1 else q) := by
      unfold rdiv
      rw [if_pos h, ← rdiv_pos_eq (q := q) hb hr1 hr2, hd]
      congr 2; omega
    rw [hk]
    have w1 : wrap64 (-q) = -q := wrap_id (by omega) (by omega)
    rw [w1]
    by_cases hc : r ≥ b - r
    · rw [if_pos hc, if_pos hc, if_neg (by simp; omega), wrap_id (by omega) (by omega)]
      congr 1; omega
    · rw [if_neg hc, if_neg hc]
  · have hq0 : a.tdiv b = a / b := Int.tdiv_eq_ediv_of_nonneg (by omega)
    have hr0 : a.tmod b = a % b := Int.tmod_eq_emod_of_nonneg (by omega)
    have hr1 := Int.emod_nonneg a (show b ≠ 0 by omega)
    have hr2 := Int.emod_lt_of_pos a hb
    have hd := Int.mul_ediv_add_emod a b
    have hq1 : 0 ≤ a / b := Int.ediv_nonneg (by omega) (by omega)
    have hq2 : a / b ≤ a := Int.ediv_le_self _ (by omega)
    rw [hq0, hr0]
    generalize a / b = q at *
    generalize a % b = r at *
    rw [abs_def (by omega) (by omega), abs_def (by omega) (by omega)]
    simp only [Option.bind_some]
    have e1 : (if r < 0 then - r else r) = r := by rw [if_neg (by omega)]
    have e2 : (if b < 0 then -b else b) = b := by rw [if_neg (by omega)]
    rw [e1, e2, wrap_id (x := b - r) (by omega) (by omega)]
    have hk : rdiv a b = (if r ≥ b - r then q + 1 else q) := by
      unfold rdiv
      rw [if_neg h, ← rdiv_pos_eq (q := q) hb hr1 hr2, hd]
    rw [hk]
    have w1 : wrap64 q = q := wrap_id (by omega) (by omega)
    rw [w1]
    by_cases hc : r ≥ b - r
    · rw [if_pos hc, if_pos hc, if_pos (by simp; omega), wrap_id (by omega) (by omega)]
    · rw [if_neg hc, if_neg hc]
theorem rdiv_nonneg {a b : Int} (ha : 0 ≤ a) (hb : 0 < b) : 0 ≤ rdiv a b := by
  unfold rdiv; rw [if_neg (by omega)]; exact Int.ediv_nonneg (by omega) (by omega)
theorem rdiv_le {a b : Int} (ha : 0 ≤ a) (hb : 0 < b) : rdiv a b ≤ 2 * a + b := by
  unfold rdiv; rw [if_neg (by omega)]; exact Int.ediv_le_self _ (by omega)

theorem last_ge (l : List Int) (h : inc l = true) : ∀ j, j < l.length → l.getD 0 0 + j ≤ l.getD j 0 := by
  intro j
  induction j with
  | zero => intro _; omega
  | succ j ih =>
    intro hj
    have h1 := ih (by omega)
    have h2 : l.getD j 0 < l.getD (j + 1) 0 := by
      have : ∀ (q : Nat) (l : List Int), inc l = true → q + 1 < l.length → l.getD q 0 < l.getD (q + 1) 0 := by
        intro q
        induction q with
        | zero =>
          intro l hi hq
          match l, hq with
          | a :: b :: t, _ =>
            simp only [inc, Bool.and_eq_true, decide_eq_true_eq] at hi
            simpa using hi.1
        | succ q ihq =>
          intro l hi hq
          match l, hq with
          | a :: b :: t, hq =>
            simp only [inc, Bool.and_eq_true] at hi
            have := ihq (b :: t) hi.2 (by simpa using hq)
            simpa using this
      exact this j l h hj
    omega
theorem spec_pt_l0 (t p : List Int) (ht : t.length ≤ 1048576) (hp : p.length ≤ 1048576) : ∀ (d j k : Nat), j + d = p.length → d + t.length + 3 < k →
    spec_PressureTest.l0 k t p (j : Int) = if (p.drop j).all (fun x => decide (0 ≤ x ∧ x ≤ 100000000)) = true then (spec_PressureTest.l0 (k - d) t p (p.length : Int)) else some (0, 2) := by
  intro d
  induction d with
  | zero =>
    intro j k hj hk
    rw [List.drop_eq_nil_of_le (by omega), show j = p.length by omega]; simp
  | succ d ih =>
    intro j k hj hk
    obtain ⟨k, rfl⟩ := suc_of hk
    have hn : wrap64 ((j : Int) + 1) = ((j + 1 : Nat) : Int) := next_nat (n := p.length) (by omega) (by omega)
    rw [show spec_PressureTest.l0 (k + 1) t p (j : Int) = spec_PressureTest.l0 (k + 1) t p (j : Int) from rfl]
    conv => lhs; simp only [spec_PressureTest.l0]
    rw [if_pos (by omega), if_pos (by omega)]
    unfold spec_l03Press.f
    rw [spec_in, rd_nat, drop_cons p (by omega : j < p.length) 0, List.all_cons, hn]
    simp only [Option.bind_some]
    by_cases h1 : 0 ≤ p.getD j 0 ∧ p.getD j 0 ≤ 100000000
    · rw [decide_eq_true h1, if_pos rfl, Bool.true_and, ih (j + 1) k (by omega) (by omega), show k + 1 - (d + 1) = k - d by omega]
    · rw [decide_eq_false h1, if_neg (by simp), Bool.false_and, if_neg (by simp)]
theorem FnExactPressureTest : laws_FnExactPressureTest.Pure := by
  intro t p _ _ _ _ _ _
  by_cases ht : t.length ≤ 1048576
  · by_cases hp : p.length ≤ 1048576
    · obtain ⟨k, hk⟩ : ∃ k, k = 3000000 := ⟨_, rfl⟩
      refine ⟨k, ?_⟩
      unfold laws_FnExactPressureTest.f
      rw [if_neg (by omega), if_neg (by omega)]
      simp only [toI t (by omega) k (by omega), toI p (by omega) k (by omega), Option.bind_some]
      have key : ∃ r, spec_PressureTest.f k t p = some r ∧ impl_PressureTest.f k t p = some r := by
        unfold spec_PressureTest.f impl_PressureTest.f impl_allWithin.f
        have h0 := spec_pt_l0 t p ht hp p.length 0 k (by omega) (by omega)
        simp only [List.drop_zero, Int.natCast_zero] at h0
        have h0' : spec_PressureTest.l0 k t p 0 = _ := h0
        rw [h0']
        simp only [Option.bind_some]
        by_cases c1 : (p.all fun x => decide (0 ≤ x ∧ x ≤ 100000000)) = true
        · rw [if_pos c1, if_pos c1]
          obtain ⟨k1, hk1⟩ : ∃ k1, k - p.length = k1 + 2 := ⟨k - p.length - 2, by omega⟩
          rw [hk1]
          simp only [spec_PressureTest.l0]
          rw [if_neg (by omega)]
          unfold spec_l17Times.f
          rw [spec_rises t (by omega) _ _ _ (by omega), impl_inc t (by omega) k (by omega)]
          simp only [Option.bind_some]
          obtain ⟨k2, rfl⟩ : ∃ k2, k = k2 + 1 := ⟨k - 1, by omega⟩
          have bad1 : spec_PressureTest.j1 (k1 + 1) t p true = some (0, 7) := by simp only [spec_PressureTest.j1]; simp
          have bad2 : impl_PressureTest.j0 (k2 + 1) t p true = some (0, 7) := by simp only [impl_PressureTest.j0]; simp
          cases c2 : inc t with
          | false => simp only [Bool.and_false, Bool.false_eq_true, if_false]; exact ⟨_, bad1, bad2⟩
          | true =>
            cases c3 : (t.all fun x => decide (0 ≤ x ∧ x ≤ 100000)) with
            | false => simp only [Bool.false_and, Bool.false_eq_true, if_false, if_true]; exact ⟨_, bad1, bad2⟩
            | true =>
              simp only [Bool.and_true, if_true]
              by_cases c4 : (t.length : Int) = (p.length : Int)
              · rw [if_pos c4, if_pos c4.symm]
                by_cases c5 : (t.length : Int) > 16
                · rw [decide_eq_true c5]; exact ⟨_, bad1, bad2⟩
                · rw [decide_eq_false c5]
                  simp only [spec_PressureTest.j1, impl_PressureTest.j0]
                  rw [if_neg Bool.false_ne_true, if_neg Bool.false_ne_true]
                  by_cases c6 : (t.length : Int) < 2
                  · rw [if_pos c6, if_pos c6]; exact ⟨_, rfl, rfl⟩
                  · have e : wrap64 ((t.length : Int) - 1) = ((t.length - 1 : Nat) : Int) := by rw [wrap_id (by omega) (by omega)]; omega
                    rw [if_neg c6, if_neg c6, e, if_pos (by omega), if_pos (by omega), if_pos (by omega), if_pos (by omega), if_pos (by omega)]
                    rw [if_pos (by omega), if_pos (by omega), if_pos (by omega), if_pos (by omega), if_pos (by omega)]
                    have ap := fun j (hj : j < p.length) => of_decide_eq_true (List.all_eq_true.1 c1 (p.getD j 0) (by rw [getD_lt hj]; exact List.getElem_mem hj))
                    have at_ := fun j (hj : j < t.length) => of_decide_eq_true (List.all_eq_true.1 c3 (t.getD j 0) (by rw [getD_lt hj]; exact List.getElem_mem hj))
                    have h1 := ap 0 (by omega)
                    have h2 := ap (t.length - 1) (by omega)
                    have h3 := at_ 0 (by omega)
                    have h4 := at_ (t.length - 1) (by omega)
                    have h5 := last_ge t c2 (t.length - 1) (by omega)
                    rw [rd_nat, rd_nat, show rd p 0 = p.getD 0 0 from rfl, show rd t 0 = t.getD 0 0 from rfl]
                    generalize p.getD 0 0 = a at *
                    generalize p.getD (t.length - 1) 0 = b at *
                    generalize t.getD 0 0 = c at *
                    generalize t.getD (t.length - 1) 0 = f at *
                    rw [wrap_id (x := a - b) (by omega) (by omega), wrap_id (x := f - c) (by omega) (by omega), wrap_id (x := 60 * (a - b)) (by omega) (by omega), spec_div (by omega) (by omega) (by omega) (by omega), impl_div (by omega) (by omega) (by omega) (by omega)]
                    exact ⟨_, rfl, rfl⟩
              · rw [if_neg c4, if_neg (fun h => c4 h.symm)]; exact ⟨_, bad1, bad2⟩
        · rw [if_neg c1, if_neg c1]; exact ⟨_, rfl, rfl⟩
      obtain ⟨r, h1, h2⟩ := key
      rw [h1, h2]
      simp only [Option.bind_some, if_true]
      have e : (r.2 != r.2) = false := by simp
      rw [e]
      obtain ⟨k2, rfl⟩ : ∃ k2, k = k2 + 1 := ⟨k - 1, by omega⟩
      simp only [laws_FnExactPressureTest.j0]
      rw [if_neg (by simp), toI t (by omega) k2 (by omega), toI p (by omega) k2 (by omega)]
      simp only [Option.bind_some, eqI t (by omega) k2 (by omega), eqI p (by omega) k2 (by omega), if_true]
    · refine ⟨0, ?_⟩
      unfold laws_FnExactPressureTest.f
      rw [if_neg (by omega), if_pos (by omega)]
  · refine ⟨0, ?_⟩
    unfold laws_FnExactPressureTest.f
    rw [if_pos (by omega)]

end Go.Proofs.Ytkacnmgcgakioaa.Pure
