/- IsCharging of the program returns what the reference's returns, for every tank, level, changes and loads. No condition. -/
import Derived.Test.YtpdgicpgjmibgaaPFnExactIsChargingx4
namespace Go.Proofs.Ytpdgicpgjmibgaa.Pure
open Go.RowKit Go.Proofs.Ytpdgicpgjmibgaa.PFnExactIsCharging Go.Proofs.YtpdgicpgjmibgaaW.PrintWords Go.Proofs.YtpdgicpgjmibgaaW.PrintLast Go.Proofs.YtpdgicpgjmibgaaW.PrintMore
set_option linter.unusedVariables false
set_option linter.unusedSimpArgs false

theorem spec_in (n lo hi : Int) : spec_l00In.f n lo hi = some (decide (lo ≤ n ∧ n ≤ hi)) := by unfold spec_l00In.f; split <;> simp <;> omega
theorem impl_in (n lo hi : Int) : impl_within.f n lo hi = some (decide (lo ≤ n ∧ n ≤ hi)) := by unfold impl_within.f; split <;> simp <;> omega

theorem wrap_id {x : Int} (h1 : -9223372036854775808 ≤ x) (h2 : x ≤ 9223372036854775807) : wrap64 x = x := by unfold wrap64; omega
theorem wf_i64 {x : Int} (h : (Lit.int .i64 x).wf = true) : -9223372036854775808 ≤ x ∧ x ≤ 9223372036854775807 := by
  simp [Lit.wf, IntKind.min, IntKind.max, IntKind.bits, IntKind.signed] at h; omega
theorem mul_bounds {a b A B : Int} (h0 : 0 ≤ a) (hA : a ≤ A) (h1 : -B ≤ b) (h2 : b ≤ B) (hB : 0 ≤ B) : -(A * B) ≤ a * b ∧ a * b ≤ A * B := by
  have e1 := Int.mul_le_mul_of_nonneg_left h2 h0
  have e2 := Int.mul_le_mul_of_nonneg_right hA hB
  have e3 := Int.mul_le_mul_of_nonneg_left h1 h0
  have e4 : a * -B = -(a * B) := Int.mul_neg a B
  omega
theorem mul_nonneg' {a b : Int} (h0 : 0 ≤ a) (h1 : 0 ≤ b) : 0 ≤ a * b := Int.mul_nonneg h0 h1
theorem next_nat {j n : Nat} (h : j < n) (hn : n ≤ 4611686018427387904) : wrap64 ((j : Int) + 1) = ((j + 1 : Nat) : Int) := by
  rw [wrap_id (by omega) (by omega)]; omega
theorem rd_nat (l : List Int) (j : Nat) : rd l (j : Int) = l.getD j 0 := by unfold rd; simp
theorem ifp {α : Type} {c : Prop} [Decidable c] {a b : α} (h : c) : (if c then a else b) = a := if_pos h
theorem ifn {α : Type} {c : Prop} [Decidable c] {a b : α} (h : ¬ c) : (if c then a else b) = b := if_neg h
theorem suc_of {k d : Nat} (h : d < k) : ∃ m, k = m + 1 := ⟨k - 1, by omega⟩
theorem getD_lt {α : Type} {l : List α} {j : Nat} {d : α} (h : j < l.length) : l.getD j d = l[j] := by
  rw [List.getD_eq_getElem?_getD, List.getElem?_eq_getElem h]; rfl
theorem drop_cons {α : Type} (l : List α) {j : Nat} (h : j < l.length) (d : α) : l.drop j = l.getD j d :: l.drop (j + 1) := by
  rw [getD_lt h]; exact List.drop_eq_getElem_cons h
theorem up {α : Type} {g : Nat → Option α} (hm : ∀ k, LeO (g k) (g (k + 1))) {k0 : Nat} {r : α} (h : g k0 = some r) : ∀ k, k0 ≤ k → g k = some r := by
  intro k hk
  induction hk with
  | refl => exact h
  | step _ ih => exact hm _ _ ih

def rdiv (a b : Int) : Int := if a < 0 then -((b - 2 * a) / (2 * b)) else (2 * a + b) / (2 * b)
theorem rdiv_pos_eq {q r b : Int} (hb : 0 < b) (h0 : 0 ≤ r) (h1 : r < b) : (2 * (b * q + r) + b) / (2 * b) = if r ≥ b - r then q + 1 else q := by
  have e : 2 * (b * q + r) + b = (2 * r + b) + (2 * b) * q := by rw [Int.mul_add, ← Int.mul_assoc]; omega
  rw [e, Int.add_mul_ediv_left _ _ (by omega : (2 * b : Int) ≠ 0)]
  split
  · have : (2 * r + b) / (2 * b) = 1 := by
      have e2 : 2 * r + b = (2 * r - b) + (2 * b) * 1 := by omega
      rw [e2, Int.add_mul_ediv_left _ _ (by omega : (2 * b : Int) ≠ 0), Int.ediv_eq_zero_of_lt (by omega) (by omega)]; rfl
    omega
  · have : (2 * r + b) / (2 * b) = 0 := Int.ediv_eq_zero_of_lt (by omega) (by omega)
    omega
theorem spec_div {a b : Int} (hb : 0 < b) (hb2 : b ≤ 2305843009213693951) (ha : -2305843009213693951 ≤ a) (ha2 : a ≤ 2305843009213693951) : spec_l01Div.f a b = some (rdiv a b) := by
  unfold spec_l01Div.f rdiv
  have w2 : wrap64 (2 * b) = 2 * b := wrap_id (by omega) (by omega)
  have h2b : (0 : Int) < 2 * b := by omega
  rw [if_neg (by omega), w2]
  by_cases h : a < 0
  · rw [if_pos h, if_pos h, if_neg (by omega)]
    have e1 : wrap64 (2 * a) = 2 * a := wrap_id (by omega) (by omega)
    have e2 : wrap64 (b - 2 * a) = b - 2 * a := wrap_id (by omega) (by omega)
    rw [e1, e2, Int.tdiv_eq_ediv_of_nonneg (by omega)]
    have b1 : 0 ≤ (b - 2 * a) / (2 * b) := Int.ediv_nonneg (by omega) (by omega)
    have b2 : (b - 2 * a) / (2 * b) ≤ b - 2 * a := Int.ediv_le_self _ (by omega)
    have e3 : wrap64 ((b - 2 * a) / (2 * b)) = (b - 2 * a) / (2 * b) := wrap_id (by omega) (by omega)
    have e4 : wrap64 (-((b - 2 * a) / (2 * b))) = -((b - 2 * a) / (2 * b)) := wrap_id (by omega) (by omega)
    rw [e3, e4]
  · rw [if_neg h, if_neg h, if_neg (by omega)]
    have e1 : wrap64 (2 * a) = 2 * a := wrap_id (by omega) (by omega)
    have e2 : wrap64 (2 * a + b) = 2 * a + b := wrap_id (by omega) (by omega)
    rw [e1, e2, Int.tdiv_eq_ediv_of_nonneg (by omega)]
    have b1 : 0 ≤ (2 * a + b) / (2 * b) := Int.ediv_nonneg (by omega) (by omega)
    have b2 : (2 * a + b) / (2 * b) ≤ 2 * a + b := Int.ediv_le_self _ (by omega)
    rw [wrap_id (by omega) (by omega)]
theorem abs_def {a : Int} (h : -9223372036854775807 ≤ a) (h2 : a ≤ 9223372036854775807) : impl_abs.f a = some (if a < 0 then -a else a) := by
  unfold impl_abs.f mx
  rw [wrap_id (by omega) (by omega)]
  split <;> split <;> first | rfl | (simp; omega)
theorem impl_div {a b : Int} (hb : 0 < b) (hb2 : b ≤ 2305843009213693951) (ha : -2305843009213693951 ≤ a) (ha2 : a ≤ 2305843009213693951) : impl_divRound.f a b = some (rdiv a b) := by
  unfold impl_divRound.f
  rw [if_neg (by omega)]
  by_cases h : a < 0
  · have hq0 : a.tdiv b = -((-a) / b) := by rw [← Int.tdiv_eq_ediv_of_nonneg (by omega), Int.neg_tdiv, Int.neg_neg]
    have hr0 : a.tmod b = -((-a) % b) := by rw [← Int.tmod_eq_emod_of_nonneg (by omega), Int.neg_tmod, Int.neg_neg]
    have hr1 := Int.emod_nonneg (-a) (show b ≠ 0 by omega)
    have hr2 := Int.emod_lt_of_pos (-a) hb
    have hd := Int.mul_ediv_add_emod (-a) b
    have hq1 : 0 ≤ (-a) / b := Int.ediv_nonneg (by omega) (by omega)
    have hq2 : (-a) / b ≤ -a := Int.ediv_le_self _ (by omega)
    rw [hq0, hr0]
    generalize (-a) / b = q at *
    generalize (-a) % b = r at *
    rw [abs_def (by omega) (by omega), abs_def (by omega) (by omega)]
    simp only [Option.bind_some]
    have e1 : (if -r < 0 then - -r else -r) = r := by split <;> omega
    have e2 : (if b < 0 then -b else b) = b := by rw [if_neg (by omega)]
    rw [e1, e2, wrap_id (x := b - r) (by omega) (by omega)]
    have hk : rdiv a b = -(if r ≥ b - r then q + 1 else q) := by
      unfold rdiv
      rw [if_pos h, ← rdiv_pos_eq (q := q) hb hr1 hr2, hd]
      congr 2; omega
    rw [hk]
    have w1 : wrap64 (-q) = -q := wrap_id (by omega) (by omega)
    rw [w1]
    by_cases hc : r ≥ b - r
    · rw [if_pos hc, if_pos hc, if_neg (by simp; omega), wrap_id (by omega) (by omega)]
      congr 1; omega
    · rw [if_neg hc, if_neg hc]
  · have hq0 : a.tdiv b = a / b := Int.tdiv_eq_ediv_of_nonneg (by omega)
    have hr0 : a.tmod b = a % b := Int.tmod_eq_emod_of_nonneg (by omega)
    have hr1 := Int.emod_nonneg a (show b ≠ 0 by omega)
    have hr2 := Int.emod_lt_of_pos a hb
    have hd := Int.mul_ediv_add_emod a b
    have hq1 : 0 ≤ a / b := Int.ediv_nonneg (by omega) (by omega)
    have hq2 : a / b ≤ a := Int.ediv_le_self _ (by omega)
    rw [hq0, hr0]
    generalize a / b = q at *
    generalize a % b = r at *
    rw [abs_def (by omega) (by omega), abs_def (by omega) (by omega)]
    simp only [Option.bind_some]
    have e1 : (if r < 0 then - r else r) = r := by rw [if_neg (by omega)]
    have e2 : (if b < 0 then -b else b) = b := by rw [if_neg (by omega)]
    rw [e1, e2, wrap_id (x := b - r) (by omega) (by omega)]
    have hk : rdiv a b = (if r ≥ b - r then q + 1 else q) := by
      unfold rdiv
      rw [if_neg h, ← rdiv_pos_eq (q := q) hb hr1 hr2, hd]
    rw [hk]
    have w1 : wrap64 q = q := wrap_id (by omega) (by omega)
    rw [w1]
    by_cases hc : r ≥ b - r
    · rw [if_pos hc, if_pos hc, if_pos (by simp; omega), wrap_id (by omega) (by omega)]
    · rw [if_neg hc, if_neg hc]
theorem rdiv_nonneg {a b : Int} (ha : 0 ≤ a) (hb : 0 < b) : 0 ≤ rdiv a b := by
  unfold rdiv; rw [if_neg (by omega)]; exact Int.ediv_nonneg (by omega) (by omega)
theorem rdiv_le {a b : Int} (ha : 0 ≤ a) (hb : 0 < b) : rdiv a b ≤ 2 * a + b := by
  unfold rdiv; rw [if_neg (by omega)]; exact Int.ediv_le_self _ (by omega)

def tankOk (a b c : Int) : Bool := decide (1 ≤ a ∧ a ≤ 100) && (decide (1 ≤ b ∧ b ≤ 20) && decide (0 ≤ c ∧ c ≤ 1000))
theorem tankOk_iff {a b c : Int} : tankOk a b c = true ↔ (1 ≤ a ∧ a ≤ 100) ∧ (1 ≤ b ∧ b ≤ 20) ∧ (0 ≤ c ∧ c ≤ 1000) := by unfold tankOk; simp [and_assoc]
theorem spec_tank (a b c : Int) : spec_l14Ok.f [(⟨a, b, c⟩ : S26)] = some (tankOk a b c) := by
  unfold spec_l14Ok.f tankOk
  rw [if_pos (by simp)]
  have e : rd_T26 [(⟨a, b, c⟩ : S26)] 0 = ⟨a, b, c⟩ := rfl
  simp only [e, spec_in, Option.bind_some]
  cases decide (1 ≤ a ∧ a ≤ 100) <;> cases decide (1 ≤ b ∧ b ≤ 20) <;> rfl
theorem impl_tank (a b c : Int) : impl_ValidTank.f a b c = some (tankOk a b c) := by
  unfold impl_ValidTank.f tankOk
  simp only [impl_in, Option.bind_some]
  cases decide (1 ≤ a ∧ a ≤ 100) <;> cases decide (1 ≤ b ∧ b ≤ 20) <;> rfl
def change (x : Int) : Bool := decide (-20 ≤ x ∧ x ≤ 20)
def hour (x : Int) : Bool := decide (0 ≤ x ∧ x ≤ 1000)
def aft (a b c v ch : Int) : Option Int := if (-b ≤ ch ∧ ch ≤ b) ∧ (0 ≤ v - rdiv (v * c) 1000 + ch ∧ v - rdiv (v * c) 1000 + ch ≤ a) then some (v - rdiv (v * c) 1000 + ch) else none
theorem aft_le {a b c v ch x : Int} (h : aft a b c v ch = some x) : 0 ≤ x ∧ x ≤ a := by
  unfold aft at h
  split at h
  · cases h; omega
  · cases h
theorem loss_b {c v : Int} (hc0 : 0 ≤ c) (hc : c ≤ 1000) (hv0 : 0 ≤ v) (hv : v ≤ 100) : (0 ≤ v * c ∧ v * c ≤ 100000) ∧ 0 ≤ rdiv (v * c) 1000 ∧ rdiv (v * c) 1000 ≤ 201000 := by
  have m := mul_bounds (a := v) (b := c) (A := 100) (B := 1000) hv0 hv (by omega) hc (by omega)
  have m0 := mul_nonneg' hv0 hc0
  have r0 := rdiv_nonneg (b := 1000) m0 (by omega)
  have r1 := rdiv_le (b := 1000) m0 (by omega)
  omega
theorem spec_after {a b c v ch : Int} (ht : tankOk a b c = true) (hv0 : 0 ≤ v) (hv : v ≤ a) (hc0 : -1000 ≤ ch) (hc1 : ch ≤ 1000) : spec_l14After.f [(⟨a, b, c⟩ : S26)] v ch = some (match aft a b c v ch with | some x => (x, true) | none => (0, false)) := by
  have t := tankOk_iff.1 ht
  have l := loss_b (c := c) (v := v) (by omega) (by omega) hv0 (by omega)
  unfold spec_l14After.f aft
  rw [if_pos (by simp)]
  have e : rd_T26 [(⟨a, b, c⟩ : S26)] 0 = ⟨a, b, c⟩ := rfl
  simp only [e]
  rw [wrap_id (x := v * c) (by omega) (by omega), spec_div (by omega) (by omega) (by omega) (by omega)]
  simp only [Option.bind_some, spec_in]
  generalize rdiv (v * c) 1000 = z at *
  rw [wrap_id (x := -b) (by omega) (by omega), wrap_id (x := v - z) (by omega) (by omega), wrap_id (x := v - z + ch) (by omega) (by omega)]
  by_cases h1 : -b ≤ ch ∧ ch ≤ b
  · by_cases h2 : 0 ≤ v - z + ch ∧ v - z + ch ≤ a
    · simp [h1, h2]
    · simp [h1, h2]
  · simp [h1]
theorem impl_after {a b c v ch : Int} (ht : tankOk a b c = true) (hv0 : 0 ≤ v) (hv : v ≤ a) (hc0 : -1000 ≤ ch) (hc1 : ch ≤ 1000) : ∃ y, impl_Tank_after.f a b c v ch = some (match aft a b c v ch with | some x => (x, true) | none => (y, false)) := by
  have t := tankOk_iff.1 ht
  have l := loss_b (c := c) (v := v) (by omega) (by omega) hv0 (by omega)
  refine ⟨v - rdiv (v * c) 1000 + ch, ?_⟩
  unfold impl_Tank_after.f aft
  rw [wrap_id (x := v * c) (by omega) (by omega), impl_div (by omega) (by omega) (by omega) (by omega), abs_def (by omega) (by omega)]
  simp only [Option.bind_some, impl_in]
  generalize rdiv (v * c) 1000 = z at *
  rw [wrap_id (x := v - z) (by omega) (by omega), wrap_id (x := v - z + ch) (by omega) (by omega)]
  by_cases h1 : -b ≤ ch ∧ ch ≤ b
  · rw [if_pos (by split <;> omega)]
    by_cases h2 : 0 ≤ v - z + ch ∧ v - z + ch ≤ a
    · simp [h1, h2]
    · simp [h1, h2]
  · rw [if_neg (by split <;> omega)]; simp [h1]
def lev (a b c : Int) : Int → List Int → Option (List Int)
  | _, [] => some []
  | v, ch :: t => match aft a b c v ch with | some x => (lev a b c x t).map (x :: ·) | none => none
theorem lev_len {a b c : Int} : ∀ (l : List Int) (v : Int) (r : List Int), lev a b c v l = some r → r.length = l.length := by
  intro l
  induction l with
  | nil => intro v r h; cases h; rfl
  | cons x t ih =>
    intro v r h
    unfold lev at h
    split at h
    · rename_i y _
      cases h2 : lev a b c y t with
      | none => rw [h2] at h; cases h
      | some s => rw [h2] at h; cases h; simp [ih _ _ h2]
    · cases h
theorem change_le {x : Int} (h : change x = true) : -20 ≤ x ∧ x ≤ 20 := of_decide_eq_true h
theorem all_getD {l : List Int} {p : Int → Bool} (h : l.all p = true) {j : Nat} (hj : j < l.length) : p (l.getD j 0) = true := by
  rw [getD_lt hj]; exact List.all_eq_true.1 h _ (List.getElem_mem hj)

theorem changes_l0 (l : List Int) (hl : l.length ≤ 35184372088832) : ∀ (d j k : Nat), j + d = l.length → d < k → spec_l14Changes.l0 k l (j : Int) = some ((l.drop j).all change && decide ((l.length : Int) ≤ 24)) := by
  intro d
  induction d with
  | zero =>
    intro j k hj hk
    obtain ⟨k, rfl⟩ := suc_of hk
    simp only [spec_l14Changes.l0]
    rw [if_neg (by omega), List.drop_eq_nil_of_le (by omega)]; rfl
  | succ d ih =>
    intro j k hj hk
    obtain ⟨k, rfl⟩ := suc_of hk
    simp only [spec_l14Changes.l0]
    unfold spec_l14Change.f
    rw [if_pos (by omega), if_pos (by omega), spec_in, rd_nat, drop_cons l (by omega : j < l.length) 0, List.all_cons, next_nat (n := l.length) (by omega) (by omega)]
    simp only [Option.bind_some]
    have e : decide (-20 ≤ l.getD j 0 ∧ l.getD j 0 ≤ 20) = change (l.getD j 0) := rfl
    rw [e]
    cases change (l.getD j 0)
    · rfl
    · rw [if_pos rfl, Bool.true_and, ih (j + 1) k (by omega) (by omega)]
theorem spec_changes (l : List Int) (hl : l.length ≤ 35184372088832) (k : Nat) (hk : l.length < k) : spec_l14Changes.f k l = some (l.all change && decide ((l.length : Int) ≤ 24)) :=
  changes_l0 l hl l.length 0 k (by omega) hk
theorem impl_changes (l : List Int) : impl_changesOk.f l = some (l.all change && decide ((l.length : Int) ≤ 24)) := by
  unfold impl_changesOk.f impl_allWithin.f
  have e : (l.all fun x => decide (-20 ≤ x ∧ x ≤ 20)) = l.all change := rfl
  rw [e]
  by_cases h : (l.length : Int) ≤ 24
  · rw [if_pos h, decide_eq_true h]; simp
  · rw [if_neg h, decide_eq_false h]; simp
theorem levels_l0 {a b c : Int} (ht : tankOk a b c = true) (l : List Int) (hl : l.length ≤ 24) (hc : l.all change = true) : ∀ (d j k : Nat) (acc : List Int) (v : Int), j + d = l.length → d < k → 0 ≤ v → v ≤ a → acc.length = j →
    spec_l14Levels.l0 k [(⟨a, b, c⟩ : S26)] l acc v (j : Int) = some (match lev a b c v (l.drop j) with | some r => (acc ++ r, true) | none => ([], false)) := by
  intro d
  induction d with
  | zero =>
    intro j k acc v hj hk h0 h1 ha
    obtain ⟨k, rfl⟩ := suc_of hk
    simp only [spec_l14Levels.l0]
    rw [if_neg (by omega), List.drop_eq_nil_of_le (by omega)]
    simp [lev]
  | succ d ih =>
    intro j k acc v hj hk h0 h1 ha
    obtain ⟨k, rfl⟩ := suc_of hk
    have cb := change_le (all_getD hc (show j < l.length by omega))
    simp only [spec_l14Levels.l0]
    rw [if_pos (by omega), if_pos (by omega), rd_nat, spec_after ht h0 h1 (by omega) (by omega), drop_cons l (by omega : j < l.length) 0, next_nat (n := l.length) (by omega) (by omega)]
    simp only [Option.bind_some, lev]
    cases h : aft a b c v (l.getD j 0) with
    | none => rfl
    | some x =>
      simp only [if_true]
      have hx := aft_le h
      rw [if_pos (by omega), ih (j + 1) k _ x (by omega) (by omega) hx.1 hx.2 (by simp; omega)]
      cases lev a b c x (l.drop (j + 1)) <;> simp
theorem spec_levels {a b c v : Int} (ht : tankOk a b c = true) (l : List Int) (hl : l.length ≤ 24) (hc : l.all change = true) (h0 : 0 ≤ v) (h1 : v ≤ a) (k : Nat) (hk : 24 < k) :
    spec_l14Levels.f k [(⟨a, b, c⟩ : S26)] v l = some (match lev a b c v l with | some r => (r, true) | none => ([], false)) := by
  have := levels_l0 ht l hl hc l.length 0 k [] v (by omega) (by omega) h0 h1 rfl
  unfold spec_l14Levels.f
  simpa using this

theorem hours_l0 (l : List Int) (hl : l.length ≤ 35184372088832) : ∀ (d j k : Nat), j + d = l.length → d < k → spec_l14Hours.l0 k l (j : Int) = some ((l.drop j).all hour && decide ((l.length : Int) ≤ 24)) := by
  intro d
  induction d with
  | zero =>
    intro j k hj hk
    obtain ⟨k, rfl⟩ := suc_of hk
    simp only [spec_l14Hours.l0]
    rw [if_neg (by omega), List.drop_eq_nil_of_le (by omega)]; rfl
  | succ d ih =>
    intro j k hj hk
    obtain ⟨k, rfl⟩ := suc_of hk
    simp only [spec_l14Hours.l0]
    rw [if_pos (by omega), if_pos (by omega), spec_in, rd_nat, drop_cons l (by omega : j < l.length) 0, List.all_cons, next_nat (n := l.length) (by omega) (by omega)]
    simp only [Option.bind_some]
    have e : decide (0 ≤ l.getD j 0 ∧ l.getD j 0 ≤ 1000) = hour (l.getD j 0) := rfl
    rw [e]
    cases hour (l.getD j 0)
    · rfl
    · rw [if_pos rfl, Bool.true_and, ih (j + 1) k (by omega) (by omega)]
theorem spec_hours (l : List Int) (hl : l.length ≤ 35184372088832) (k : Nat) (hk : l.length < k) : spec_l14Hours.f k l = some (l.all hour && decide ((l.length : Int) ≤ 24)) :=
  hours_l0 l hl l.length 0 k (by omega) hk
theorem impl_ok (a b c v m : Int) (ls es : List Int) : impl_charging_ok.f a b c ls es m v = some (tankOk a b c && (decide (0 ≤ v ∧ v ≤ a) && ((ls.all hour && decide ((ls.length : Int) ≤ 24)) && hour m))) := by
  unfold impl_charging_ok.f impl_allWithin.f
  rw [impl_tank]
  have e : (ls.all fun x => decide (0 ≤ x ∧ x ≤ 1000)) = ls.all hour := rfl
  have e2 : decide (0 ≤ m ∧ m ≤ 1000) = hour m := rfl
  simp only [impl_in, e, e2, Option.bind_some]
  cases tankOk a b c
  · rfl
  · cases decide (0 ≤ v ∧ v ≤ a)
    · rfl
    · by_cases h : (ls.length : Int) ≤ 24
      · rw [if_pos h, decide_eq_true h]; cases ls.all hour <;> rfl
      · rw [if_neg h, decide_eq_false h]; simp
theorem hour_le {x : Int} (h : hour x = true) : 0 ≤ x ∧ x ≤ 1000 := of_decide_eq_true h

theorem toI_l0 (l : List Int) (hl : l.length ≤ 35184372088832) : ∀ (d j k : Nat) (m : List Int), j + d = l.length → d < k → m.length = l.length → (∀ i, i < j → m[i]? = l[i]?) → laws_toInt64S.l0 k l m (j : Int) = some l := by
  intro d
  induction d with
  | zero =>
    intro j k m hj hk hm hp
    obtain ⟨k, rfl⟩ := suc_of hk
    simp only [laws_toInt64S.l0]
    rw [if_neg (by omega)]
    congr 1
    apply List.ext_getElem?
    intro i
    by_cases hi : i < j
    · exact hp i hi
    · rw [List.getElem?_eq_none (by omega), List.getElem?_eq_none (by omega)]
  | succ d ih =>
    intro j k m hj hk hm hp
    obtain ⟨k, rfl⟩ := suc_of hk
    simp only [laws_toInt64S.l0]
    rw [if_pos (by omega), if_pos (by omega), if_pos (by omega), next_nat (n := l.length) (by omega) (by omega)]
    refine ih (j + 1) k _ (by omega) (by omega) (by simpa using hm) (fun i hi => ?_)
    rw [Int.toNat_natCast, rd_nat, List.getElem?_set]
    by_cases e : j = i
    · subst e
      rw [if_pos rfl, if_pos (by omega), getD_lt (by omega), List.getElem?_eq_getElem (by omega)]
    · rw [if_neg e]; exact hp i (by omega)
theorem toI (l : List Int) (hl : l.length ≤ 35184372088832) (k : Nat) (hk : l.length < k) : laws_toInt64S.f k l = some l := by
  unfold laws_toInt64S.f
  rw [if_pos (by omega), if_pos (by omega)]
  exact toI_l0 l hl l.length 0 k _ (by omega) hk (by simp) (fun i hi => absurd hi (by omega))

theorem eqI_l0 (l : List Int) (hl : l.length ≤ 35184372088832) : ∀ (d j k : Nat), j + d = l.length → d < k → laws_eqInt64S.l0 k l l (j : Int) = some true := by
  intro d
  induction d with
  | zero =>
    intro j k hj hk
    obtain ⟨k, rfl⟩ := suc_of hk
    simp only [laws_eqInt64S.l0]
    rw [if_neg (by omega)]
  | succ d ih =>
    intro j k hj hk
    obtain ⟨k, rfl⟩ := suc_of hk
    simp only [laws_eqInt64S.l0]
    rw [if_pos (by omega), if_pos (by omega), if_pos (by omega), if_pos trivial, next_nat (n := l.length) (by omega) (by omega)]
    exact ih (j + 1) k (by omega) (by omega)
theorem eqI (l : List Int) (hl : l.length ≤ 35184372088832) (k : Nat) (hk : l.length < k) : laws_eqInt64S.f k l l = some true := by
  unfold laws_eqInt64S.f
  rw [if_pos rfl]
  exact eqI_l0 l hl l.length 0 k (by omega) hk

def fits (m : Int) (ls cs : List Int) : Bool := (List.zip ls cs).all fun p => decide (0 ≤ p.1 + p.2 ∧ p.1 + p.2 ≤ m)
theorem spec_ch_l0 {a b c m v0 : Int} (ht : tankOk a b c = true) (h0 : 0 ≤ v0) (h1 : v0 ≤ a) (cs ls : List Int) (he : cs.length = ls.length) (hl : cs.length ≤ 24) (hc : cs.all change = true) (hh : ls.all hour = true) : ∀ (d j k : Nat), j + d = cs.length → d + 25 < k →
    spec_IsCharging.l0 k v0 cs ls m (j : Int) a b c = some (fits m (ls.drop j) (cs.drop j) && (lev a b c v0 cs).isSome) := by
  intro d
  induction d with
  | zero =>
    intro j k hj hk
    obtain ⟨k, rfl⟩ := suc_of (show 0 < k by omega)
    simp only [spec_IsCharging.l0]
    rw [if_neg (by omega), List.drop_eq_nil_of_le (by omega), List.drop_eq_nil_of_le (by omega), spec_levels ht cs hl hc h0 h1 k (by omega)]
    cases lev a b c v0 cs <;> rfl
  | succ d ih =>
    intro j k hj hk
    obtain ⟨k, rfl⟩ := suc_of (show 0 < k by omega)
    have cb := change_le (all_getD hc (show j < cs.length by omega))
    have hb := hour_le (all_getD hh (show j < ls.length by omega))
    simp only [spec_IsCharging.l0]
    rw [if_pos (by omega), if_pos (by omega), if_pos (by omega), rd_nat, rd_nat, drop_cons cs (by omega : j < cs.length) 0, drop_cons ls (by omega : j < ls.length) 0, next_nat (n := cs.length) (by omega) (by omega), wrap_id (x := ls.getD j 0 + cs.getD j 0) (by omega) (by omega), spec_in, ih (j + 1) k (by omega) (by omega)]
    have e : fits m (ls.getD j 0 :: ls.drop (j + 1)) (cs.getD j 0 :: cs.drop (j + 1)) = (decide (0 ≤ ls.getD j 0 + cs.getD j 0 ∧ ls.getD j 0 + cs.getD j 0 ≤ m) && fits m (ls.drop (j + 1)) (cs.drop (j + 1))) := rfl
    rw [e]
    simp only [Option.bind_some]
    cases decide (0 ≤ ls.getD j 0 + cs.getD j 0 ∧ ls.getD j 0 + cs.getD j 0 ≤ m) <;> rfl
theorem impl_ch_l0 {a b c m : Int} (ht : tankOk a b c = true) (cs ls : List Int) (he : cs.length = ls.length) (hl : cs.length ≤ 24) (hc : cs.all change = true) (hh : ls.all hour = true) : ∀ (d j k : Nat) (v : Int), j + d = cs.length → d < k → 0 ≤ v → v ≤ a →
    impl_IsCharging.l0 k v cs (cs.length : Int) (j : Int) a b c ls m = some (fits m (ls.drop j) (cs.drop j) && (lev a b c v (cs.drop j)).isSome) := by
  intro d
  induction d with
  | zero =>
    intro j k v hj hk h0 h1
    obtain ⟨k, rfl⟩ := suc_of (show 0 < k by omega)
    simp only [impl_IsCharging.l0]
    rw [if_neg (by omega), List.drop_eq_nil_of_le (by omega), List.drop_eq_nil_of_le (by omega)]
    rfl
  | succ d ih =>
    intro j k v hj hk h0 h1
    obtain ⟨k, rfl⟩ := suc_of (show 0 < k by omega)
    have cb := change_le (all_getD hc (show j < cs.length by omega))
    have hb := hour_le (all_getD hh (show j < ls.length by omega))
    simp only [impl_IsCharging.l0]
    unfold impl_charging_after.f
    obtain ⟨y, hy⟩ := impl_after (ch := cs.getD j 0) ht h0 h1 (by omega) (by omega)
    rw [if_pos (by omega), if_pos (by omega), if_pos (by omega), rd_nat, hy, drop_cons cs (by omega : j < cs.length) 0, drop_cons ls (by omega : j < ls.length) 0, next_nat (n := cs.length) (by omega) (by omega)]
    have e : fits m (ls.getD j 0 :: ls.drop (j + 1)) (cs.getD j 0 :: cs.drop (j + 1)) = (decide (0 ≤ ls.getD j 0 + cs.getD j 0 ∧ ls.getD j 0 + cs.getD j 0 ≤ m) && fits m (ls.drop (j + 1)) (cs.drop (j + 1))) := rfl
    rw [e]
    simp only [Option.bind_some, lev]
    cases h : aft a b c v (cs.getD j 0) with
    | none => simp
    | some x =>
      simp only [if_true]
      have hx := aft_le h
      rw [if_pos (by omega), if_pos (by omega), rd_nat, wrap_id (x := ls.getD j 0 + cs.getD j 0) (by omega) (by omega), impl_in]
      simp only [Option.bind_some]
      rw [ih (j + 1) k x (by omega) (by omega) hx.1 hx.2]
      cases decide (0 ≤ ls.getD j 0 + cs.getD j 0 ∧ ls.getD j 0 + cs.getD j 0 ≤ m)
      · rfl
      · cases lev a b c x (cs.drop (j + 1)) <;> simp
theorem ischarging_both (a b c v m : Int) (cs ls : List Int) (h1 : cs.length ≤ 1048576) (h2 : ls.length ≤ 1048576) (k : Nat) (hk : 2000000 ≤ k) : ∃ r, spec_IsCharging.f k a b c v cs ls m = some r ∧ impl_IsCharging.f k a b c v cs ls m = some r := by
  obtain ⟨k, rfl⟩ := suc_of (show 0 < k by omega)
  have sbad : spec_IsCharging.j0 (k + 1) v cs ls m true a b c = some false := by simp only [spec_IsCharging.j0]; simp
  have ibad : impl_IsCharging.j0 (k + 1) v cs true a b c ls m = some false := by simp only [impl_IsCharging.j0]; simp
  unfold spec_IsCharging.f impl_IsCharging.f spec_l14Most.f
  rw [spec_tank, impl_ok, impl_changes, spec_changes cs (by omega) _ (by omega), spec_hours ls (by omega) _ (by omega), sbad, ibad]
  have e2 : decide (0 ≤ m ∧ m ≤ 1000) = hour m := rfl
  simp only [spec_in, Option.bind_some, e2]
  cases ht : tankOk a b c
  · exact ⟨_, rfl, rfl⟩
  · by_cases hv : 0 ≤ v ∧ v ≤ a
    · rw [decide_eq_true hv]
      cases hc : (cs.all change && decide ((cs.length : Int) ≤ 24))
      · refine ⟨_, rfl, ?_⟩
        simp only [Bool.true_and, Bool.false_eq_true, if_false]
        split <;> rfl
      · cases hh : (ls.all hour && decide ((ls.length : Int) ≤ 24))
        · refine ⟨_, rfl, ?_⟩
          simp only [Bool.true_and, Bool.false_and, Bool.false_eq_true, if_false]
        · simp only [Bool.true_and, if_true]
          by_cases he : (ls.length : Int) = (cs.length : Int)
          · rw [if_pos he]
            have en : ((cs.length : Int) != (ls.length : Int)) = false := by simp; omega
            rw [en]
            cases hm : hour m
            · refine ⟨_, sbad, ?_⟩
              simp
            · simp only [Bool.not_true, if_true, spec_IsCharging.j0, impl_IsCharging.j0]
              rw [if_neg Bool.false_ne_true, if_neg Bool.false_ne_true]
              rw [Bool.and_eq_true] at hc hh
              have h24 : cs.length ≤ 24 := by have := of_decide_eq_true hc.2; omega
              have s := spec_ch_l0 (m := m) ht hv.1 hv.2 cs ls (by omega) h24 hc.1 hh.1 cs.length 0 k (by omega) (by omega)
              have i := impl_ch_l0 (m := m) ht cs ls (by omega) h24 hc.1 hh.1 cs.length 0 k v (by omega) (by omega) hv.1 hv.2
              simp only [List.drop_zero] at s i
              exact ⟨_, s, i⟩
          · rw [if_neg he]
            have en : ((cs.length : Int) != (ls.length : Int)) = true := by simp; omega
            rw [en]
            refine ⟨_, rfl, ?_⟩
            cases hour m
            · simp
            · simp [ibad]
    · rw [decide_eq_false hv]
      exact ⟨_, rfl, rfl⟩
theorem FnExactIsCharging : laws_FnExactIsCharging.Pure := by
  intro x v cs ls m _ _ _ _ _
  obtain ⟨a, b, c⟩ := x
  by_cases h1 : cs.length ≤ 1048576
  · by_cases h2 : ls.length ≤ 1048576
    · refine ⟨2000000, ?_⟩
      obtain ⟨r, s, i⟩ := ischarging_both a b c v m cs ls h1 h2 2000000 (by omega)
      unfold laws_FnExactIsCharging.f laws_toTank.f
      rw [if_neg (by omega), if_neg (by omega)]
      have er : (r != r) = false := by simp
      simp only [toI cs (by omega) 2000000 (by omega), toI ls (by omega) 2000000 (by omega), s, i, eqI cs (by omega) 2000000 (by omega), eqI ls (by omega) 2000000 (by omega), Option.bind_some, if_true, er]
      rw [if_neg Bool.false_ne_true]
    · refine ⟨0, ?_⟩
      unfold laws_FnExactIsCharging.f
      rw [if_neg (by omega), if_pos (by omega)]
  · refine ⟨0, ?_⟩
    unfold laws_FnExactIsCharging.f
    rw [if_pos (by omega)]

end Go.Proofs.Ytpdgicpgjmibgaa.Pure
