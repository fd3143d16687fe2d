/- LevelsOf of the program returns what the reference's returns, for every tank, level and changes. No condition. -/
import Derived.Test.YtpdgicpgjmibgaaPFnExactLevelsOfx4
namespace Go.Proofs.Ytpdgicpgjmibgaa.Pure
open Go.RowKit Go.Proofs.Ytpdgicpgjmibgaa.PFnExactLevelsOf Go.Proofs.YtpdgicpgjmibgaaW.PrintWords Go.Proofs.YtpdgicpgjmibgaaW.PrintLast Go.Proofs.YtpdgicpgjmibgaaW.PrintMore
set_option linter.unusedVariables false
set_option linter.unusedSimpArgs false

theorem spec_in (n lo hi : Int) : spec_l00In.f n lo hi = some (decide (lo ≤ n ∧ n ≤ hi)) := by unfold spec_l00In.f; split <;> simp <;> omega
theorem impl_in (n lo hi : Int) : impl_within.f n lo hi = some (decide (lo ≤ n ∧ n ≤ hi)) := by unfold impl_within.f; split <;> simp <;> omega

theorem wrap_id {x : Int} (h1 : -9223372036854775808 ≤ x) (h2 : x ≤ 9223372036854775807) : wrap64 x = x := by unfold wrap64; omega
theorem wf_i64 {x : Int} (h : (Lit.int .i64 x).wf = true) : -9223372036854775808 ≤ x ∧ x ≤ 9223372036854775807 := by
  simp [Lit.wf, IntKind.min, IntKind.max, IntKind.bits, IntKind.signed] at h; omega
theorem mul_bounds {a b A B : Int} (h0 : 0 ≤ a) (hA : a ≤ A) (h1 : -B ≤ b) (h2 : b ≤ B) (hB : 0 ≤ B) : -(A * B) ≤ a * b ∧ a * b ≤ A * B := by
  have e1 := Int.mul_le_mul_of_nonneg_left h2 h0
  have e2 := Int.mul_le_mul_of_nonneg_right hA hB
  have e3 := Int.mul_le_mul_of_nonneg_left h1 h0
  have e4 : a * -B = -(a * B) := Int.mul_neg a B
  omega
theorem mul_nonneg' {a b : Int} (h0 : 0 ≤ a) (h1 : 0 ≤ b) : 0 ≤ a * b := Int.mul_nonneg h0 h1
theorem next_nat {j n : Nat} (h : j < n) (hn : n ≤ 4611686018427387904) : wrap64 ((j : Int) + 1) = ((j + 1 : Nat) : Int) := by
  rw [wrap_id (by omega) (by omega)]; omega
theorem rd_nat (l : List Int) (j : Nat) : rd l (j : Int) = l.getD j 0 := by unfold rd; simp
theorem ifp {α : Type} {c : Prop} [Decidable c] {a b : α} (h : c) : (if c then a else b) = a := if_pos h
theorem ifn {α : Type} {c : Prop} [Decidable c] {a b : α} (h : ¬ c) : (if c then a else b) = b := if_neg h
theorem suc_of {k d : Nat} (h : d < k) : ∃ m, k = m + 1 := ⟨k - 1, by omega⟩
theorem getD_lt {α : Type} {l : List α} {j : Nat} {d : α} (h : j < l.length) : l.getD j d = l[j] := by
  rw [List.getD_eq_getElem?_getD, List.getElem?_eq_getElem h]; rfl
theorem drop_cons {α : Type} (l : List α) {j : Nat} (h : j < l.length) (d : α) : l.drop j = l.getD j d :: l.drop (j + 1) := by
  rw [getD_lt h]; exact List.drop_eq_getElem_cons h
theorem up {α : Type} {g : Nat → Option α} (hm : ∀ k, LeO (g k) (g (k + 1))) {k0 : Nat} {r : α} (h : g k0 = some r) : ∀ k, k0 ≤ k → g k = some r := by
  intro k hk
  induction hk with
  | refl => exact h
  | step _ ih => exact hm _ _ ih

def rdiv (a b : Int) : Int := if a < 0 then -((b - 2 * a) / (2 * b)) else (2 * a + b) / (2 * b)
theorem rdiv_pos_eq {q r b : Int} (hb : 0 < b) (h0 : 0 ≤ r) (h1 : r < b) : (2 * (b * q + r) + b) / (2 * b) = if r ≥ b - r then q + 1 else q := by
  have e : 2 * (b * q + r) + b = (2 * r + b) + (2 * b) * q := by rw [Int.mul_add, ← Int.mul_assoc]; omega
  rw [e, Int.add_mul_ediv_left _ _ (by omega : (2 * b : Int) ≠ 0)]
  split
  · have : (2 * r + b) / (2 * b) = 1 := by
      have e2 : 2 * r + b = (2 * r - b) + (2 * b) * 1 := by omega
      rw [e2, Int.add_mul_ediv_left _ _ (by omega : (2 * b : Int) ≠ 0), Int.ediv_eq_zero_of_lt (by omega) (by omega)]; rfl
    omega
  · have : (2 * r + b) / (2 * b) = 0 := Int.ediv_eq_zero_of_lt (by omega) (by omega)
    omega
theorem spec_div {a b : Int} (hb : 0 < b) (hb2 : b ≤ 2305843009213693951) (ha : -2305843009213693951 ≤ a) (ha2 : a ≤ 2305843009213693951) : spec_l01Div.f a b = some (rdiv a b) := by
  unfold spec_l01Div.f rdiv
  have w2 : wrap64 (2 * b) = 2 * b := wrap_id (by omega) (by omega)
  have h2b : (0 : Int) < 2 * b := by omega
  rw [if_neg (by omega), w2]
  by_cases h : a < 0
  · rw [if_pos h, if_pos h, if_neg (by omega)]
    have e1 : wrap64 (2 * a) = 2 * a := wrap_id (by omega) (by omega)
    have e2 : wrap64 (b - 2 * a) = b - 2 * a := wrap_id (by omega) (by omega)
    rw [e1, e2, Int.tdiv_eq_ediv_of_nonneg (by omega)]
    have b1 : 0 ≤ (b - 2 * a) / (2 * b) := Int.ediv_nonneg (by omega) (by omega)
    have b2 : (b - 2 * a) / (2 * b) ≤ b - 2 * a := Int.ediv_le_self _ (by omega)
    have e3 : wrap64 ((b - 2 * a) / (2 * b)) = (b - 2 * a) / (2 * b) := wrap_id (by omega) (by omega)
    have e4 : wrap64 (-((b - 2 * a) / (2 * b))) = -((b - 2 * a) / (2 * b)) := wrap_id (by omega) (by omega)
    rw [e3, e4]
  · rw [if_neg h, if_neg h, if_neg (by omega)]
    have e1 : wrap64 (2 * a) = 2 * a := wrap_id (by omega) (by omega)
    have e2 : wrap64 (2 * a + b) = 2 * a + b := wrap_id (by omega) (by omega)
    rw [e1, e2, Int.tdiv_eq_ediv_of_nonneg (by omega)]
    have b1 : 0 ≤ (2 * a + b) / (2 * b) := Int.ediv_nonneg (by omega) (by omega)
    have b2 : (2 * a + b) / (2 * b) ≤ 2 * a + b := Int.ediv_le_self _ (by omega)
    rw [wrap_id (by omega) (by omega)]
theorem abs_def {a : Int} (h : -9223372036854775807 ≤ a) (h2 : a ≤ 9223372036854775807) : impl_abs.f a = some (if a < 0 then -a else a) := by
  unfold impl_abs.f mx
  rw [wrap_id (by omega) (by omega)]
  split <;> split <;> first | rfl | (simp; omega)
theorem impl_div {a b : Int} (hb : 0 < b) (hb2 : b ≤ 2305843009213693951) (ha : -2305843009213693951 ≤ a) (ha2 : a ≤ 2305843009213693951) : impl_divRound.f a b = some (rdiv a b) := by
  unfold impl_divRound.f
  rw [if_neg (by omega)]
  by_cases h : a < 0
  · have hq0 : a.tdiv b = -((-a) / b) := by rw [← Int.tdiv_eq_ediv_of_nonneg (by omega), Int.neg_tdiv, Int.neg_neg]
    have hr0 : a.tmod b = -((-a) % b) := by rw [← Int.tmod_eq_emod_of_nonneg (by omega), Int.neg_tmod, Int.neg_neg]
    have hr1 := Int.emod_nonneg (-a) (show b ≠ 0 by omega)
    have hr2 := Int.emod_lt_of_pos (-a) hb
    have hd := Int.mul_ediv_add_emod (-a) b
    have hq1 : 0 ≤ (-a) / b := Int.ediv_nonneg (by omega) (by omega)
    have hq2 : (-a) / b ≤ -a := Int.ediv_le_self _ (by omega)
    rw [hq0, hr0]
    generalize (-a) / b = q at *
    generalize (-a) % b = r at *
    rw [abs_def (by omega) (by omega), abs_def (by omega) (by omega)]
    simp only [Option.bind_some]
    have e1 : (if -r < 0 then - -r else -r) = r := by split <;> omega
    have e2 : (if b < 0 then -b else b) = b := by rw [if_neg (by omega)]
    rw [e1, e2, wrap_id (x := b - r) (by omega) (by omega)]
    have hk : rdiv a b = -(if r ≥ b - r then q + 1 else q) := by
      unfold rdiv
      rw [if_pos h, ← rdiv_pos_eq (q := q) hb hr1 hr2, hd]
      congr 2; omega
    rw [hk]
    have w1 : wrap64 (-q) = -q := wrap_id (by omega) (by omega)
    rw [w1]
    by_cases hc : r ≥ b - r
    · rw [if_pos hc, if_pos hc, if_neg (by simp; omega), wrap_id (by omega) (by omega)]
      congr 1; omega
    · rw [if_neg hc, if_neg hc]
  · have hq0 : a.tdiv b = a / b := Int.tdiv_eq_ediv_of_nonneg (by omega)
    have hr0 : a.tmod b = a % b := Int.tmod_eq_emod_of_nonneg (by omega)
    have hr1 := Int.emod_nonneg a (show b ≠ 0 by omega)
    have hr2 := Int.emod_lt_of_pos a hb
    have hd := Int.mul_ediv_add_emod a b
    have hq1 : 0 ≤ a / b := Int.ediv_nonneg (by omega) (by omega)
    have hq2 : a / b ≤ a := Int.ediv_le_self _ (by omega)
    rw [hq0, hr0]
    generalize a / b = q at *
    generalize a % b = r at *
    rw [abs_def (by omega) (by omega), abs_def (by omega) (by omega)]
    simp only [Option.bind_some]
    have e1 : (if r < 0 then - r else r) = r := by rw [if_neg (by omega)]
    have e2 : (if b < 0 then -b else b) = b := by rw [if_neg (by omega)]
    rw [e1, e2, wrap_id (x := b - r) (by omega) (by omega)]
    have hk : rdiv a b = (if r ≥ b - r then q + 1 else q) := by
      unfold rdiv
      rw [if_neg h, ← rdiv_pos_eq (q := q) hb hr1 hr2, hd]
    rw [hk]
    have w1 : wrap64 q = q := wrap_id (by omega) (by omega)
    rw [w1]
    by_cases hc : r ≥ b - r
    · rw [if_pos hc, if_pos hc, if_pos (by simp; omega), wrap_id (by omega) (by omega)]
    · rw [if_neg hc, if_neg hc]
theorem rdiv_nonneg {a b : Int} (ha : 0 ≤ a) (hb : 0 < b) : 0 ≤ rdiv a b := by
  unfold rdiv; rw [if_neg (by omega)]; exact Int.ediv_nonneg (by omega) (by omega)
theorem rdiv_le {a b : Int} (ha : 0 ≤ a) (hb : 0 < b) : rdiv a b ≤ 2 * a + b := by
  unfold rdiv; rw [if_neg (by omega)]; exact Int.ediv_le_self _ (by omega)

def tankOk (a b c : Int) : Bool := decide (1 ≤ a ∧ a ≤ 100) && (decide (1 ≤ b ∧ b ≤ 20) && decide (0 ≤ c ∧ c ≤ 1000))
theorem tankOk_iff {a b c : Int} : tankOk a b c = true ↔ (1 ≤ a ∧ a ≤ 100) ∧ (1 ≤ b ∧ b ≤ 20) ∧ (0 ≤ c ∧ c ≤ 1000) := by unfold tankOk; simp [and_assoc]
theorem spec_tank (a b c : Int) : spec_l14Ok.f [(⟨a, b, c⟩ : S26)] = some (tankOk a b c) := by
  unfold spec_l14Ok.f tankOk
  rw [if_pos (by simp)]
  have e : rd_T26 [(⟨a, b, c⟩ : S26)] 0 = ⟨a, b, c⟩ := rfl
  simp only [e, spec_in, Option.bind_some]
  cases decide (1 ≤ a ∧ a ≤ 100) <;> cases decide (1 ≤ b ∧ b ≤ 20) <;> rfl
theorem impl_tank (a b c : Int) : impl_ValidTank.f a b c = some (tankOk a b c) := by
  unfold impl_ValidTank.f tankOk
  simp only [impl_in, Option.bind_some]
  cases decide (1 ≤ a ∧ a ≤ 100) <;> cases decide (1 ≤ b ∧ b ≤ 20) <;> rfl
def change (x : Int) : Bool := decide (-20 ≤ x ∧ x ≤ 20)
def hour (x : Int) : Bool := decide (0 ≤ x ∧ x ≤ 1000)
def aft (a b c v ch : Int) : Option Int := if (-b ≤ ch ∧ ch ≤ b) ∧ (0 ≤ v - rdiv (v * c) 1000 + ch ∧ v - rdiv (v * c) 1000 + ch ≤ a) then some (v - rdiv (v * c) 1000 + ch) else none
theorem aft_le {a b c v ch x : Int} (h : aft a b c v ch = some x) : 0 ≤ x ∧ x ≤ a := by
  unfold aft at h
  split at h
  · cases h; omega
  · cases h
theorem loss_b {c v : Int} (hc0 : 0 ≤ c) (hc : c ≤ 1000) (hv0 : 0 ≤ v) (hv : v ≤ 100) : (0 ≤ v * c ∧ v * c ≤ 100000) ∧ 0 ≤ rdiv (v * c) 1000 ∧ rdiv (v * c) 1000 ≤ 201000 := by
  have m := mul_bounds (a := v) (b := c) (A := 100) (B := 1000) hv0 hv (by omega) hc (by omega)
  have m0 := mul_nonneg' hv0 hc0
  have r0 := rdiv_nonneg (b := 1000) m0 (by omega)
  have r1 := rdiv_le (b := 1000) m0 (by omega)
  omega
theorem spec_after {a b c v ch : Int} (ht : tankOk a b c = true) (hv0 : 0 ≤ v) (hv : v ≤ a) (hc0 : -1000 ≤ ch) (hc1 : ch ≤ 1000) : spec_l14After.f [(⟨a, b, c⟩ : S26)] v ch = some (match aft a b c v ch with | some x => (x, true) | none => (0, false)) := by
  have t := tankOk_iff.1 ht
  have l := loss_b (c := c) (v := v) (by omega) (by omega) hv0 (by omega)
  unfold spec_l14After.f aft
  rw [if_pos (by simp)]
  have e : rd_T26 [(⟨a, b, c⟩ : S26)] 0 = ⟨a, b, c⟩ := rfl
  simp only [e]
  rw [wrap_id (x := v * c) (by omega) (by omega), spec_div (by omega) (by omega) (by omega) (by omega)]
  simp only [Option.bind_some, spec_in]
  generalize rdiv (v * c) 1000 = z at *
  rw [wrap_id (x := -b) (by omega) (by omega), wrap_id (x := v - z) (by omega) (by omega), wrap_id (x := v - z + ch) (by omega) (by omega)]
  by_cases h1 : -b ≤ ch ∧ ch ≤ b
  · by_cases h2 : 0 ≤ v - z + ch ∧ v - z + ch ≤ a
    · simp [h1, h2]
    · simp [h1, h2]
  · simp [h1]
theorem impl_after {a b c v ch : Int} (ht : tankOk a b c = true) (hv0 : 0 ≤ v) (hv : v ≤ a) (hc0 : -1000 ≤ ch) (hc1 : ch ≤ 1000) : ∃ y, impl_Tank_after.f a b c v ch = some (match aft a b c v ch with | some x => (x, true) | none => (y, false)) := by
  have t := tankOk_iff.1 ht
  have l := loss_b (c := c) (v := v) (by omega) (by omega) hv0 (by omega)
  refine ⟨v - rdiv (v * c) 1000 + ch, ?_⟩
  unfold impl_Tank_after.f aft
  rw [wrap_id (x := v * c) (by omega) (by omega), impl_div (by omega) (by omega) (by omega) (by omega), abs_def (by omega) (by omega)]
  simp only [Option.bind_some, impl_in]
  generalize rdiv (v * c) 1000 = z at *
  rw [wrap_id (x := v - z) (by omega) (by omega), wrap_id (x := v - z + ch) (by omega) (by omega)]
  by_cases h1 : -b ≤ ch ∧ ch ≤ b
  · rw [if_pos (by split <;> omega)]
    by_cases h2 : 0 ≤ v - z + ch ∧ v - z + ch ≤ a
    · simp [h1, h2]
    · simp [h1, h2]
  · rw [if_neg (by split <;> omega)]; simp [h1]
def lev (a b c : Int) : Int → List Int → Option (List Int)
  | _, [] => some []
  | v, ch :: t => match aft a b c v ch with | some x => (lev a b c x t).map (x :: ·) | none => none
theorem lev_len {a b c : Int} : ∀ (l : List Int) (v : Int) (r : List Int), lev a b c v l = some r → r.length = l.length := by
  intro l
  induction l with
  | nil => intro v r h; cases h; rfl
  | cons x t ih =>
    intro v r h
    unfold lev at h
    split at h
    · rename_i y _
      cases h2 : lev a b c y t with
      | none => rw [h2] at h; cases h
      | some s => rw [h2] at h; cases h; simp [ih _ _ h2]
    · cases h
theorem change_le {x : Int} (h : change x = true) : -20 ≤ x ∧ x ≤ 20 := of_decide_eq_true h
theorem all_getD {l : List Int} {p : Int → Bool} (h : l.all p = true) {j : Nat} (hj : j < l.length) : p (l.getD j 0) = true := by
  rw [getD_lt hj]; exact List.all_eq_true.1 h _ (List.getElem_mem hj)

theorem changes_l0 (l : List Int) (hl : l.length ≤ 35184372088832) : ∀ (d j k : Nat), j + d = l.length → d < k → spec_l14Changes.l0 k l (j : Int) = some ((l.drop j).all change && decide ((l.length : Int) ≤ 24)) := by
  intro d
  induction d with
  | zero =>
    intro j k hj hk
    obtain ⟨k, rfl⟩ := suc_of hk
    simp only [spec_l14Changes.l0]
    rw [if_neg (by omega), List.drop_eq_nil_of_le (by omega)]; rfl
  | succ d ih =>
    intro j k hj hk
    obtain ⟨k, rfl⟩ := suc_of hk
    simp only [spec_l14Changes.l0]
    unfold spec_l14Change.f
    rw [if_pos (by omega), if_pos (by omega), spec_in, rd_nat, drop_cons l (by omega : j < l.length) 0, List.all_cons, next_nat (n := l.length) (by omega) (by omega)]
    simp only [Option.bind_some]
    have e : decide (-20 ≤ l.getD j 0 ∧ l.getD j 0 ≤ 20) = change (l.getD j 0) := rfl
    rw [e]
    cases change (l.getD j 0)
    · rfl
    · rw [if_pos rfl, Bool.true_and, ih (j + 1) k (by omega) (by omega)]
theorem spec_changes (l : List Int) (hl : l.length ≤ 35184372088832) (k : Nat) (hk : l.length < k) : spec_l14Changes.f k l = some (l.all change && decide ((l.length : Int) ≤ 24)) :=
  changes_l0 l hl l.length 0 k (by omega) hk
theorem impl_changes (l : List Int) : impl_changesOk.f l = some (l.all change && decide ((l.length : Int) ≤ 24)) := by
  unfold impl_changesOk.f impl_allWithin.f
  have e : (l.all fun x => decide (-20 ≤ x ∧ x ≤ 20)) = l.all change := rfl
  rw [e]
  by_cases h : (l.length : Int) ≤ 24
  · rw [if_pos h, decide_eq_true h]; simp
  · rw [if_neg h, decide_eq_false h]; simp
theorem levels_l0 {a b c : Int} (ht : tankOk a b c = true) (l : List Int) (hl : l.length ≤ 24) (hc : l.all change = true) : ∀ (d j k : Nat) (acc : List Int) (v : Int), j + d = l.length → d < k → 0 ≤ v → v ≤ a → acc.length = j →
    spec_l14Levels.l0 k [(⟨a, b, c⟩ : S26)] l acc v (j : Int) = some (match lev a b c v (l.drop j) with | some r => (acc ++ r, true) | none => ([], false)) := by
  intro d
  induction d with
  | zero =>
    intro j k acc v hj hk h0 h1 ha
    obtain ⟨k, rfl⟩ := suc_of hk
    simp only [spec_l14Levels.l0]
    rw [if_neg (by omega), List.drop_eq_nil_of_le (by omega)]
    simp [lev]
  | succ d ih =>
    intro j k acc v hj hk h0 h1 ha
    obtain ⟨k, rfl⟩ := suc_of hk
    have cb := change_le (all_getD hc (show j < l.length by omega))
    simp only [spec_l14Levels.l0]
    rw [if_pos (by omega), if_pos (by omega), rd_nat, spec_after ht h0 h1 (by omega) (by omega), drop_cons l (by omega : j < l.length) 0, next_nat (n := l.length) (by omega) (by omega)]
    simp only [Option.bind_some, lev]
    cases h : aft a b c v (l.getD j 0) with
    | none => rfl
    | some x =>
      simp only [if_true]
      have hx := aft_le h
      rw [if_pos (by omega), ih (j + 1) k _ x (by omega) (by omega) hx.1 hx.2 (by simp; omega)]
      cases lev a b c x (l.drop (j + 1)) <;> simp
theorem spec_levels {a b c v : Int} (ht : tankOk a b c = true) (l : List Int) (hl : l.length ≤ 24) (hc : l.all change = true) (h0 : 0 ≤ v) (h1 : v ≤ a) (k : Nat) (hk : 24 < k) :
    spec_l14Levels.f k [(⟨a, b, c⟩ : S26)] v l = some (match lev a b c v l with | some r => (r, true) | none => ([], false)) := by
  have := levels_l0 ht l hl hc l.length 0 k [] v (by omega) (by omega) h0 h1 rfl
  unfold spec_l14Levels.f
  simpa using this

theorem toI_l0 (l : List Int) (hl : l.length ≤ 35184372088832) : ∀ (d j k : Nat) (m : List Int), j + d = l.length → d < k → m.length = l.length → (∀ i, i < j → m[i]? = l[i]?) → laws_toInt64S.l0 k l m (j : Int) = some l := by
  intro d
  induction d with
  | zero =>
    intro j k m hj hk hm hp
    obtain ⟨k, rfl⟩ := suc_of hk
    simp only [laws_toInt64S.l0]
    rw [if_neg (by omega)]
    congr 1
    apply List.ext_getElem?
    intro i
    by_cases hi : i < j
    · exact hp i hi
    · rw [List.getElem?_eq_none (by omega), List.getElem?_eq_none (by omega)]
  | succ d ih =>
    intro j k m hj hk hm hp
    obtain ⟨k, rfl⟩ := suc_of hk
    simp only [laws_toInt64S.l0]
    rw [if_pos (by omega), if_pos (by omega), if_pos (by omega), next_nat (n := l.length) (by omega) (by omega)]
    refine ih (j + 1) k _ (by omega) (by omega) (by simpa using hm) (fun i hi => ?_)
    rw [Int.toNat_natCast, rd_nat, List.getElem?_set]
    by_cases e : j = i
    · subst e
      rw [if_pos rfl, if_pos (by omega), getD_lt (by omega), List.getElem?_eq_getElem (by omega)]
    · rw [if_neg e]; exact hp i (by omega)
theorem toI (l : List Int) (hl : l.length ≤ 35184372088832) (k : Nat) (hk : l.length < k) : laws_toInt64S.f k l = some l := by
  unfold laws_toInt64S.f
  rw [if_pos (by omega), if_pos (by omega)]
  exact toI_l0 l hl l.length 0 k _ (by omega) hk (by simp) (fun i hi => absurd hi (by omega))

theorem eqI_l0 (l : List Int) (hl : l.length ≤ 35184372088832) : ∀ (d j k : Nat), j + d = l.length → d < k → laws_eqInt64S.l0 k l l (j : Int) = some true := by
  intro d
  induction d with
  | zero =>
    intro j k hj hk
    obtain ⟨k, rfl⟩ := suc_of hk
    simp only [laws_eqInt64S.l0]
    rw [if_neg (by omega)]
  | succ d ih =>
    intro j k hj hk
    obtain ⟨k, rfl⟩ := suc_of hk
    simp only [laws_eqInt64S.l0]
    rw [if_pos (by omega), if_pos (by omega), if_pos (by omega), if_pos trivial, next_nat (n := l.length) (by omega) (by omega)]
    exact ih (j + 1) k (by omega) (by omega)
theorem eqI (l : List Int) (hl : l.length ≤ 35184372088832) (k : Nat) (hk : l.length < k) : laws_eqInt64S.f k l l = some true := by
  unfold laws_eqInt64S.f
  rw [if_pos rfl]
  exact eqI_l0 l hl l.length 0 k (by omega) hk

theorem markc_l0 (c0 : Int) (hc0 : 0 ≤ c0) (hc1 : c0 ≤ 1000000000000000) : ∀ (d j k : Nat) (m : List Int) (c : Int), j + d = m.length → m.length ≤ 35184372088832 → d < k → c = c0 + (j : Int) → (∀ i, i < j → m[i]? = some (c0 + (i : Int))) →
    ∃ m', laws_markInt64S.l0 k m c (j : Int) = some (c0 + (m.length : Int), m') ∧ m'.length = m.length ∧ ∀ i, i < m'.length → m'[i]? = some (c0 + (i : Int)) := by
  intro d
  induction d with
  | zero =>
    intro j k m c hj hl hk hc hp
    obtain ⟨k, rfl⟩ := suc_of hk
    simp only [laws_markInt64S.l0]
    rw [if_neg (by omega)]
    exact ⟨m, by rw [hc]; congr 2; omega, rfl, fun i hi => hp i (by omega)⟩
  | succ d ih =>
    intro j k m c hj hl hk hc hp
    obtain ⟨k, rfl⟩ := suc_of hk
    simp only [laws_markInt64S.l0]
    rw [if_pos (by omega), if_pos (by omega), next_nat (n := m.length) (by omega) (by omega), wrap_id (x := c + 1) (by omega) (by omega), Int.toNat_natCast]
    obtain ⟨m', h1, h2, h3⟩ := ih (j + 1) k (m.set j c) (c + 1) (by simp; omega) (by simpa using hl) (by omega) (by omega) (fun i hi => by
      rw [List.getElem?_set]
      by_cases e : j = i
      · subst e; rw [if_pos rfl, if_pos (by omega), hc]
      · rw [if_neg e]; exact hp i (by omega))
    exact ⟨m', by rw [h1]; simp, by simpa using h2, h3⟩
theorem heldc_l0 (c0 : Int) (hc0 : 0 ≤ c0) (hc1 : c0 ≤ 1000000000000000) (m : List Int) (hl : m.length ≤ 35184372088832) (hm : ∀ i, i < m.length → m[i]? = some (c0 + (i : Int))) : ∀ (d j k : Nat) (c : Int), j + d = m.length → d < k → c = c0 + (j : Int) → laws_heldInt64S.l0 k m c (j : Int) = some (c0 + (m.length : Int)) := by
  intro d
  induction d with
  | zero =>
    intro j k c hj hk hc
    obtain ⟨k, rfl⟩ := suc_of hk
    simp only [laws_heldInt64S.l0]
    rw [if_neg (by omega)]
    congr 1; omega
  | succ d ih =>
    intro j k c hj hk hc
    obtain ⟨k, rfl⟩ := suc_of hk
    simp only [laws_heldInt64S.l0]
    have e : rd m (j : Int) = c := by
      rw [rd_nat, List.getD_eq_getElem?_getD, hm j (by omega), hc]; rfl
    rw [if_pos (by omega), if_pos (by omega), if_pos e, next_nat (n := m.length) (by omega) (by omega), wrap_id (x := c + 1) (by omega) (by omega)]
    exact ih (j + 1) k (c + 1) (by omega) (by omega) (by omega)
theorem markc_held (l : List Int) (c0 : Int) (hc0 : 0 ≤ c0) (hc1 : c0 ≤ 1000000000000000) (hl : l.length ≤ 35184372088832) (k : Nat) (hk : l.length < k) : ∃ m', laws_markInt64S.f k l c0 = some (c0 + (l.length : Int), m') ∧ m'.length = l.length ∧ (∀ k', l.length < k' → laws_heldInt64S.f k' m' c0 = some (c0 + (l.length : Int))) := by
  obtain ⟨m', h1, h2, h3⟩ := markc_l0 c0 hc0 hc1 l.length 0 k l c0 (by omega) hl hk (by omega) (fun i hi => absurd hi (by omega))
  refine ⟨m', h1, h2, fun k' hk' => ?_⟩
  have := heldc_l0 c0 hc0 hc1 m' (by omega) h3 m'.length 0 k' c0 (by omega) (by omega) (by omega)
  rw [h2] at this
  exact this

theorem impl_lev_l0 {a b c : Int} (ht : tankOk a b c = true) (l : List Int) (hl : l.length ≤ 24) (hc : l.all change = true) : ∀ (d j k : Nat) (acc : List Int) (v : Int), j + d = l.length → d < k → 0 ≤ v → v ≤ a → acc.length = j →
    impl_LevelsOf.l0 k acc v l (l.length : Int) (j : Int) a b c = some (match lev a b c v (l.drop j) with | some r => (acc ++ r, 0) | none => ([], 6)) := by
  intro d
  induction d with
  | zero =>
    intro j k acc v hj hk h0 h1 ha
    obtain ⟨k, rfl⟩ := suc_of hk
    simp only [impl_LevelsOf.l0]
    rw [if_neg (by omega), List.drop_eq_nil_of_le (by omega)]
    simp [lev]
  | succ d ih =>
    intro j k acc v hj hk h0 h1 ha
    obtain ⟨k, rfl⟩ := suc_of hk
    have cb := change_le (all_getD hc (show j < l.length by omega))
    simp only [impl_LevelsOf.l0]
    obtain ⟨y, hy⟩ := impl_after (ch := l.getD j 0) ht h0 h1 (by omega) (by omega)
    rw [if_pos (by omega), if_pos (by omega), if_pos (by omega), rd_nat, hy, drop_cons l (by omega : j < l.length) 0, next_nat (n := l.length) (by omega) (by omega)]
    simp only [Option.bind_some, lev]
    cases h : aft a b c v (l.getD j 0) with
    | none => rfl
    | some x =>
      simp only [if_true]
      have hx := aft_le h
      rw [if_pos (by omega), ih (j + 1) k _ x (by omega) (by omega) hx.1 hx.2 (by simp; omega)]
      cases lev a b c x (l.drop (j + 1)) <;> simp
theorem levels_both (a b c v : Int) (l : List Int) (hl : l.length ≤ 1048576) : ∃ r e, (∀ k, 2000000 ≤ k → spec_LevelsOf.f k a b c v l = some (r, e)) ∧ (∀ k, 2000000 ≤ k → impl_LevelsOf.f k a b c v l = some (r, e)) ∧ r.length ≤ 24 := by
  have h2 : ∀ k, 2000000 ≤ k → spec_l14Changes.f k l = some (l.all change && decide ((l.length : Int) ≤ 24)) := fun k hk => spec_changes l (by omega) k (by omega)
  by_cases ht : tankOk a b c = true
  · by_cases hv : 0 ≤ v ∧ v ≤ a
    · cases hc : (l.all change && decide ((l.length : Int) ≤ 24)) with
      | false =>
        refine ⟨[], 2, fun k hk => ?_, fun k hk => ?_, by simp⟩
        · obtain ⟨k, rfl⟩ := suc_of (show 0 < k by omega)
          unfold spec_LevelsOf.f
          rw [spec_tank, spec_in, h2 _ hk, ht, decide_eq_true hv, hc]
          simp only [Option.bind_some, if_true, spec_LevelsOf.j0, Bool.not_false]
        · unfold impl_LevelsOf.f
          rw [impl_tank, impl_in, impl_changes, ht, decide_eq_true hv, hc]
          simp
      | true =>
        have hc' := hc
        rw [Bool.and_eq_true] at hc'
        have h24 : l.length ≤ 24 := by have := of_decide_eq_true hc'.2; omega
        refine ⟨match lev a b c v l with | some r => r | none => [], match lev a b c v l with | some r => 0 | none => 6, fun k hk => ?_, fun k hk => ?_, ?_⟩
        · obtain ⟨k, rfl⟩ := suc_of (show 0 < k by omega)
          unfold spec_LevelsOf.f
          rw [spec_tank, spec_in, h2 _ hk, ht, decide_eq_true hv, hc]
          simp only [Option.bind_some, if_true, spec_LevelsOf.j0, Bool.not_true]
          rw [if_neg Bool.false_ne_true, spec_levels ht l h24 hc'.1 hv.1 hv.2 k (by omega)]
          cases lev a b c v l <;> rfl
        · unfold impl_LevelsOf.f
          rw [impl_tank, impl_in, impl_changes, ht, decide_eq_true hv, hc]
          simp only [Option.bind_some, if_true]
          have := impl_lev_l0 ht l h24 hc'.1 l.length 0 k [] v (by omega) (by omega) hv.1 hv.2 rfl
          simp only [Int.natCast_zero] at this
          have this' : impl_LevelsOf.l0 k [] v l (l.length : Int) 0 a b c = _ := this
          rw [this', List.drop_zero]
          cases lev a b c v l <;> simp
        · cases h : lev a b c v l with
          | none => simp
          | some r => have := lev_len _ _ _ h; simp only []; omega
    · refine ⟨[], 2, fun k hk => ?_, fun k hk => ?_, by simp⟩
      · obtain ⟨k, rfl⟩ := suc_of (show 0 < k by omega)
        unfold spec_LevelsOf.f
        rw [spec_tank, spec_in, ht, decide_eq_false hv]
        simp [spec_LevelsOf.j0]
      · unfold impl_LevelsOf.f
        rw [impl_tank, impl_in, ht, decide_eq_false hv]
        simp
  · rw [Bool.not_eq_true] at ht
    refine ⟨[], 1, fun k hk => ?_, fun k hk => ?_, by simp⟩
    · unfold spec_LevelsOf.f
      rw [spec_tank, ht]; simp
    · unfold impl_LevelsOf.f
      rw [impl_tank, ht]; simp
theorem FnExactLevelsOf : laws_FnExactLevelsOf.Pure := by
  intro x v l _ _ _
  obtain ⟨a, b, c⟩ := x
  by_cases hl : l.length ≤ 1048576
  · obtain ⟨k, hk⟩ : ∃ k, k = 3000000 := ⟨_, rfl⟩
    refine ⟨k + 3, ?_⟩
    obtain ⟨r, e, s, i, hr⟩ := levels_both a b c v l hl
    have ee : (e != e) = false := by simp
    obtain ⟨m1, a1, b1, _⟩ := markc_held l 1 (by omega) (by omega) (by omega) (k + 2) (by omega)
    obtain ⟨m3, a3, b3, d3⟩ := markc_held r 1 (by omega) (by omega) (by omega) (k + 1) (by omega)
    unfold laws_FnExactLevelsOf.f laws_toTank.f
    rw [if_neg (by omega)]
    simp only [toI l (by omega) (k + 3) (by omega), s (k + 3) (by omega), i (k + 3) (by omega), eqI r (by omega) (k + 3) (by omega), Option.bind_some, if_true, ee]
    simp only [laws_FnExactLevelsOf.j0]
    rw [if_neg Bool.false_ne_true]
    simp only [toI l (by omega) (k + 2) (by omega), eqI l (by omega) (k + 2) (by omega), eqI r (by omega) (k + 2) (by omega), a1, Option.bind_some, if_true, ee]
    rw [if_neg (by omega)]
    simp only [laws_FnExactLevelsOf.j1]
    unfold laws_toTank.f
    rw [if_neg Bool.false_ne_true]
    simp only [a3, d3 (k + 1) (by omega), toI l (by omega) (k + 1) (by omega), i (k + 1) (by omega), eqI r (by omega) (k + 1) (by omega), Option.bind_some, if_true, ee]
    rw [if_neg (by omega)]
    simp only [laws_FnExactLevelsOf.j2]
    rw [if_neg Bool.false_ne_true]
    simp only [d3 k (by omega), Option.bind_some, if_true]
    rw [if_neg (by omega)]
  · refine ⟨0, ?_⟩
    unfold laws_FnExactLevelsOf.f
    rw [if_pos (by omega)]

end Go.Proofs.Ytpdgicpgjmibgaa.Pure
