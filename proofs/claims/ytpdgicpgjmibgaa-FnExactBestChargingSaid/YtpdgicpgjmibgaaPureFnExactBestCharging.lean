/- BestCharging of the program returns what the reference's returns, for every tank, level, demands, prices and limit. No condition. -/
import Derived.Test.YtpdgicpgjmibgaaPFnExactBestChargingx8
namespace Go.Proofs.Ytpdgicpgjmibgaa.Pure
open Go.RowKit Go.Proofs.Ytpdgicpgjmibgaa.PFnExactBestCharging Go.Proofs.YtpdgicpgjmibgaaW.PrintWords Go.Proofs.YtpdgicpgjmibgaaW.PrintLast Go.Proofs.YtpdgicpgjmibgaaW.PrintMore
set_option linter.unusedVariables false
set_option linter.unusedSimpArgs false

theorem impl_in (n lo hi : Int) : impl_within.f n lo hi = some (decide (lo ≤ n ∧ n ≤ hi)) := by unfold impl_within.f; split <;> simp <;> omega

theorem spec_in (n lo hi : Int) : spec_l00In.f n lo hi = some (decide (lo ≤ n ∧ n ≤ hi)) := by unfold spec_l00In.f; split <;> simp <;> omega

theorem wrap_id {x : Int} (h1 : -9223372036854775808 ≤ x) (h2 : x ≤ 9223372036854775807) : wrap64 x = x := by unfold wrap64; omega
theorem wf_i64 {x : Int} (h : (Lit.int .i64 x).wf = true) : -9223372036854775808 ≤ x ∧ x ≤ 9223372036854775807 := by
  simp [Lit.wf, IntKind.min, IntKind.max, IntKind.bits, IntKind.signed] at h; omega
theorem mul_bounds {a b A B : Int} (h0 : 0 ≤ a) (hA : a ≤ A) (h1 : -B ≤ b) (h2 : b ≤ B) (hB : 0 ≤ B) : -(A * B) ≤ a * b ∧ a * b ≤ A * B := by
  have e1 := Int.mul_le_mul_of_nonneg_left h2 h0
  have e2 := Int.mul_le_mul_of_nonneg_right hA hB
  have e3 := Int.mul_le_mul_of_nonneg_left h1 h0
  have e4 : a * -B = -(a * B) := Int.mul_neg a B
  omega
theorem mul_nonneg' {a b : Int} (h0 : 0 ≤ a) (h1 : 0 ≤ b) : 0 ≤ a * b := Int.mul_nonneg h0 h1
theorem next_nat {j n : Nat} (h : j < n) (hn : n ≤ 4611686018427387904) : wrap64 ((j : Int) + 1) = ((j + 1 : Nat) : Int) := by
  rw [wrap_id (by omega) (by omega)]; omega
theorem rd_nat (l : List Int) (j : Nat) : rd l (j : Int) = l.getD j 0 := by unfold rd; simp
theorem ifp {α : Type} {c : Prop} [Decidable c] {a b : α} (h : c) : (if c then a else b) = a := if_pos h
theorem ifn {α : Type} {c : Prop} [Decidable c] {a b : α} (h : ¬ c) : (if c then a else b) = b := if_neg h
theorem suc_of {k d : Nat} (h : d < k) : ∃ m, k = m + 1 := ⟨k - 1, by omega⟩
theorem getD_lt {α : Type} {l : List α} {j : Nat} {d : α} (h : j < l.length) : l.getD j d = l[j] := by
  rw [List.getD_eq_getElem?_getD, List.getElem?_eq_getElem h]; rfl
theorem drop_cons {α : Type} (l : List α) {j : Nat} (h : j < l.length) (d : α) : l.drop j = l.getD j d :: l.drop (j + 1) := by
  rw [getD_lt h]; exact List.drop_eq_getElem_cons h
theorem up {α : Type} {g : Nat → Option α} (hm : ∀ k, LeO (g k) (g (k + 1))) {k0 : Nat} {r : α} (h : g k0 = some r) : ∀ k, k0 ≤ k → g k = some r := by
  intro k hk
  induction hk with
  | refl => exact h
  | step _ ih => exact hm _ _ ih

def rdiv (a b : Int) : Int := if a < 0 then -((b - 2 * a) / (2 * b)) else (2 * a + b) / (2 * b)
theorem rdiv_pos_eq {q r b : Int} (hb : 0 < b) (h0 : 0 ≤ r) (h1 : r < b) : (2 * (b * q + r) + b) / (2 * b) = if r ≥ b - r then q + 1 else q := by
  have e : 2 * (b * q + r) + b = (2 * r + b) + (2 * b) * q := by rw [Int.mul_add, ← Int.mul_assoc]; omega
  rw [e, Int.add_mul_ediv_left _ _ (by omega : (2 * b : Int) ≠ 0)]
  split
  · have : (2 * r + b) / (2 * b) = 1 := by
      have e2 : 2 * r + b = (2 * r - b) + (2 * b) * 1 := by omega
      rw [e2, Int.add_mul_ediv_left _ _ (by omega : (2 * b : Int) ≠ 0), Int.ediv_eq_zero_of_lt (by omega) (by omega)]; rfl
    omega
  · have : (2 * r + b) / (2 * b) = 0 := Int.ediv_eq_zero_of_lt (by omega) (by omega)
    omega
theorem abs_def {a : Int} (h : -9223372036854775807 ≤ a) (h2 : a ≤ 9223372036854775807) : impl_abs.f a = some (if a < 0 then -a else a) := by
  unfold impl_abs.f mx
  rw [wrap_id (by omega) (by omega)]
  split <;> split <;> first | rfl | (simp; omega)
theorem impl_div {a b : Int} (hb : 0 < b) (hb2 : b ≤ 2305843009213693951) (ha : -2305843009213693951 ≤ a) (ha2 : a ≤ 2305843009213693951) : impl_divRound.f a b = some (rdiv a b) := by
  unfold impl_divRound.f
  rw [if_neg (by omega)]
  by_cases h : a < 0
  · have hq0 : a.tdiv b = -((-a) / b) := by rw [← Int.tdiv_eq_ediv_of_nonneg (by omega), Int.neg_tdiv, Int.neg_neg]
    have hr0 : a.tmod b = -((-a) % b) := by rw [← Int.tmod_eq_emod_of_nonneg (by omega), Int.neg_tmod, Int.neg_neg]
    have hr1 := Int.emod_nonneg (-a) (show b ≠ 0 by omega)
    have hr2 := Int.emod_lt_of_pos (-a) hb
    have hd := Int.mul_ediv_add_emod (-a) b
    have hq1 : 0 ≤ (-a) / b := Int.ediv_nonneg (by omega) (by omega)
    have hq2 : (-a) / b ≤ -a := Int.ediv_le_self _ (by omega)
    rw [hq0, hr0]
    generalize (-a) / b = q at *
    generalize (-a) % b = r at *
    rw [abs_def (by omega) (by omega), abs_def (by omega) (by omega)]
    simp only [Option.bind_some]
    have e1 : (if -r < 0 then - -r else -r) = r := by split <;> omega
    have e2 : (if b < 0 then -b else b) = b := by rw [if_neg (by omega)]
    rw [e1, e2, wrap_id (x := b - r) (by omega) (by omega)]
    have hk : rdiv a b = -(if r ≥ b - r then q + 1 else q) := by
      unfold rdiv
      rw [if_pos h, ← rdiv_pos_eq (q := q) hb hr1 hr2, hd]
      congr 2; omega
    rw [hk]
    have w1 : wrap64 (-q) = -q := wrap_id (by omega) (by omega)
    rw [w1]
    by_cases hc : r ≥ b - r
    · rw [if_pos hc, if_pos hc, if_neg (by simp; omega), wrap_id (by omega) (by omega)]
      congr 1; omega
    · rw [if_neg hc, if_neg hc]
  · have hq0 : a.tdiv b = a / b := Int.tdiv_eq_ediv_of_nonneg (by omega)
    have hr0 : a.tmod b = a % b := Int.tmod_eq_emod_of_nonneg (by omega)
    have hr1 := Int.emod_nonneg a (show b ≠ 0 by omega)
    have hr2 := Int.emod_lt_of_pos a hb
    have hd := Int.mul_ediv_add_emod a b
    have hq1 : 0 ≤ a / b := Int.ediv_nonneg (by omega) (by omega)
    have hq2 : a / b ≤ a := Int.ediv_le_self _ (by omega)
    rw [hq0, hr0]
    generalize a / b = q at *
    generalize a % b = r at *
    rw [abs_def (by omega) (by omega), abs_def (by omega) (by omega)]
    simp only [Option.bind_some]
    have e1 : (if r < 0 then - r else r) = r := by rw [if_neg (by omega)]
    have e2 : (if b < 0 then -b else b) = b := by rw [if_neg (by omega)]
    rw [e1, e2, wrap_id (x := b - r) (by omega) (by omega)]
    have hk : rdiv a b = (if r ≥ b - r then q + 1 else q) := by
      unfold rdiv
      rw [if_neg h, ← rdiv_pos_eq (q := q) hb hr1 hr2, hd]
    rw [hk]
    have w1 : wrap64 q = q := wrap_id (by omega) (by omega)
    rw [w1]
    by_cases hc : r ≥ b - r
    · rw [if_pos hc, if_pos hc, if_pos (by simp; omega), wrap_id (by omega) (by omega)]
    · rw [if_neg hc, if_neg hc]
theorem rdiv_nonneg {a b : Int} (ha : 0 ≤ a) (hb : 0 < b) : 0 ≤ rdiv a b := by
  unfold rdiv; rw [if_neg (by omega)]; exact Int.ediv_nonneg (by omega) (by omega)
theorem rdiv_le {a b : Int} (ha : 0 ≤ a) (hb : 0 < b) : rdiv a b ≤ 2 * a + b := by
  unfold rdiv; rw [if_neg (by omega)]; exact Int.ediv_le_self _ (by omega)

theorem spec_div {a b : Int} (hb : 0 < b) (hb2 : b ≤ 2305843009213693951) (ha : -2305843009213693951 ≤ a) (ha2 : a ≤ 2305843009213693951) : spec_l01Div.f a b = some (rdiv a b) := by
  unfold spec_l01Div.f rdiv
  have w2 : wrap64 (2 * b) = 2 * b := wrap_id (by omega) (by omega)
  have h2b : (0 : Int) < 2 * b := by omega
  rw [if_neg (by omega), w2]
  by_cases h : a < 0
  · rw [if_pos h, if_pos h, if_neg (by omega)]
    have e1 : wrap64 (2 * a) = 2 * a := wrap_id (by omega) (by omega)
    have e2 : wrap64 (b - 2 * a) = b - 2 * a := wrap_id (by omega) (by omega)
    rw [e1, e2, Int.tdiv_eq_ediv_of_nonneg (by omega)]
    have b1 : 0 ≤ (b - 2 * a) / (2 * b) := Int.ediv_nonneg (by omega) (by omega)
    have b2 : (b - 2 * a) / (2 * b) ≤ b - 2 * a := Int.ediv_le_self _ (by omega)
    have e3 : wrap64 ((b - 2 * a) / (2 * b)) = (b - 2 * a) / (2 * b) := wrap_id (by omega) (by omega)
    have e4 : wrap64 (-((b - 2 * a) / (2 * b))) = -((b - 2 * a) / (2 * b)) := wrap_id (by omega) (by omega)
    rw [e3, e4]
  · rw [if_neg h, if_neg h, if_neg (by omega)]
    have e1 : wrap64 (2 * a) = 2 * a := wrap_id (by omega) (by omega)
    have e2 : wrap64 (2 * a + b) = 2 * a + b := wrap_id (by omega) (by omega)
    rw [e1, e2, Int.tdiv_eq_ediv_of_nonneg (by omega)]
    have b1 : 0 ≤ (2 * a + b) / (2 * b) := Int.ediv_nonneg (by omega) (by omega)
    have b2 : (2 * a + b) / (2 * b) ≤ 2 * a + b := Int.ediv_le_self _ (by omega)
    rw [wrap_id (by omega) (by omega)]

def tankOk (a b c : Int) : Bool := decide (1 ≤ a ∧ a ≤ 100) && (decide (1 ≤ b ∧ b ≤ 20) && decide (0 ≤ c ∧ c ≤ 1000))
theorem tankOk_iff {a b c : Int} : tankOk a b c = true ↔ (1 ≤ a ∧ a ≤ 100) ∧ (1 ≤ b ∧ b ≤ 20) ∧ (0 ≤ c ∧ c ≤ 1000) := by unfold tankOk; simp [and_assoc]
theorem spec_tank (a b c : Int) : spec_l14Ok.f [(⟨a, b, c⟩ : S26)] = some (tankOk a b c) := by
  unfold spec_l14Ok.f tankOk
  rw [if_pos (by simp)]
  have e : rd_T26 [(⟨a, b, c⟩ : S26)] 0 = ⟨a, b, c⟩ := rfl
  simp only [e, spec_in, Option.bind_some]
  cases decide (1 ≤ a ∧ a ≤ 100) <;> cases decide (1 ≤ b ∧ b ≤ 20) <;> rfl
theorem impl_tank (a b c : Int) : impl_ValidTank.f a b c = some (tankOk a b c) := by
  unfold impl_ValidTank.f tankOk
  simp only [impl_in, Option.bind_some]
  cases decide (1 ≤ a ∧ a ≤ 100) <;> cases decide (1 ≤ b ∧ b ≤ 20) <;> rfl
def change (x : Int) : Bool := decide (-20 ≤ x ∧ x ≤ 20)
def hour (x : Int) : Bool := decide (0 ≤ x ∧ x ≤ 1000)
def aft (a b c v ch : Int) : Option Int := if (-b ≤ ch ∧ ch ≤ b) ∧ (0 ≤ v - rdiv (v * c) 1000 + ch ∧ v - rdiv (v * c) 1000 + ch ≤ a) then some (v - rdiv (v * c) 1000 + ch) else none
theorem aft_le {a b c v ch x : Int} (h : aft a b c v ch = some x) : 0 ≤ x ∧ x ≤ a := by
  unfold aft at h
  split at h
  · cases h; omega
  · cases h
theorem loss_b {c v : Int} (hc0 : 0 ≤ c) (hc : c ≤ 1000) (hv0 : 0 ≤ v) (hv : v ≤ 100) : (0 ≤ v * c ∧ v * c ≤ 100000) ∧ 0 ≤ rdiv (v * c) 1000 ∧ rdiv (v * c) 1000 ≤ 201000 := by
  have m := mul_bounds (a := v) (b := c) (A := 100) (B := 1000) hv0 hv (by omega) hc (by omega)
  have m0 := mul_nonneg' hv0 hc0
  have r0 := rdiv_nonneg (b := 1000) m0 (by omega)
  have r1 := rdiv_le (b := 1000) m0 (by omega)
  omega
theorem spec_after {a b c v ch : Int} (ht : tankOk a b c = true) (hv0 : 0 ≤ v) (hv : v ≤ a) (hc0 : -1000 ≤ ch) (hc1 : ch ≤ 1000) : spec_l14After.f [(⟨a, b, c⟩ : S26)] v ch = some (match aft a b c v ch with | some x => (x, true) | none => (0, false)) := by
  have t := tankOk_iff.1 ht
  have l := loss_b (c := c) (v := v) (by omega) (by omega) hv0 (by omega)
  unfold spec_l14After.f aft
  rw [if_pos (by simp)]
  have e : rd_T26 [(⟨a, b, c⟩ : S26)] 0 = ⟨a, b, c⟩ := rfl
  simp only [e]
  rw [wrap_id (x := v * c) (by omega) (by omega), spec_div (by omega) (by omega) (by omega) (by omega)]
  simp only [Option.bind_some, spec_in]
  generalize rdiv (v * c) 1000 = z at *
  rw [wrap_id (x := -b) (by omega) (by omega), wrap_id (x := v - z) (by omega) (by omega), wrap_id (x := v - z + ch) (by omega) (by omega)]
  by_cases h1 : -b ≤ ch ∧ ch ≤ b
  · by_cases h2 : 0 ≤ v - z + ch ∧ v - z + ch ≤ a
    · simp [h1, h2]
    · simp [h1, h2]
  · simp [h1]
theorem impl_after {a b c v ch : Int} (ht : tankOk a b c = true) (hv0 : 0 ≤ v) (hv : v ≤ a) (hc0 : -1000 ≤ ch) (hc1 : ch ≤ 1000) : ∃ y, impl_Tank_after.f a b c v ch = some (match aft a b c v ch with | some x => (x, true) | none => (y, false)) := by
  have t := tankOk_iff.1 ht
  have l := loss_b (c := c) (v := v) (by omega) (by omega) hv0 (by omega)
  refine ⟨v - rdiv (v * c) 1000 + ch, ?_⟩
  unfold impl_Tank_after.f aft
  rw [wrap_id (x := v * c) (by omega) (by omega), impl_div (by omega) (by omega) (by omega) (by omega), abs_def (by omega) (by omega)]
  simp only [Option.bind_some, impl_in]
  generalize rdiv (v * c) 1000 = z at *
  rw [wrap_id (x := v - z) (by omega) (by omega), wrap_id (x := v - z + ch) (by omega) (by omega)]
  by_cases h1 : -b ≤ ch ∧ ch ≤ b
  · rw [if_pos (by split <;> omega)]
    by_cases h2 : 0 ≤ v - z + ch ∧ v - z + ch ≤ a
    · simp [h1, h2]
    · simp [h1, h2]
  · rw [if_neg (by split <;> omega)]; simp [h1]
def lev (a b c : Int) : Int → List Int → Option (List Int)
  | _, [] => some []
  | v, ch :: t => match aft a b c v ch with | some x => (lev a b c x t).map (x :: ·) | none => none
theorem lev_len {a b c : Int} : ∀ (l : List Int) (v : Int) (r : List Int), lev a b c v l = some r → r.length = l.length := by
  intro l
  induction l with
  | nil => intro v r h; cases h; rfl
  | cons x t ih =>
    intro v r h
    unfold lev at h
    split at h
    · rename_i y _
      cases h2 : lev a b c y t with
      | none => rw [h2] at h; cases h
      | some s => rw [h2] at h; cases h; simp [ih _ _ h2]
    · cases h
theorem change_le {x : Int} (h : change x = true) : -20 ≤ x ∧ x ≤ 20 := of_decide_eq_true h
theorem all_getD {l : List Int} {p : Int → Bool} (h : l.all p = true) {j : Nat} (hj : j < l.length) : p (l.getD j 0) = true := by
  rw [getD_lt hj]; exact List.all_eq_true.1 h _ (List.getElem_mem hj)

theorem hours_l0 (l : List Int) (hl : l.length ≤ 35184372088832) : ∀ (d j k : Nat), j + d = l.length → d < k → spec_l14Hours.l0 k l (j : Int) = some ((l.drop j).all hour && decide ((l.length : Int) ≤ 24)) := by
  intro d
  induction d with
  | zero =>
    intro j k hj hk
    obtain ⟨k, rfl⟩ := suc_of hk
    simp only [spec_l14Hours.l0]
    rw [if_neg (by omega), List.drop_eq_nil_of_le (by omega)]; rfl
  | succ d ih =>
    intro j k hj hk
    obtain ⟨k, rfl⟩ := suc_of hk
    simp only [spec_l14Hours.l0]
    rw [if_pos (by omega), if_pos (by omega), spec_in, rd_nat, drop_cons l (by omega : j < l.length) 0, List.all_cons, next_nat (n := l.length) (by omega) (by omega)]
    simp only [Option.bind_some]
    have e : decide (0 ≤ l.getD j 0 ∧ l.getD j 0 ≤ 1000) = hour (l.getD j 0) := rfl
    rw [e]
    cases hour (l.getD j 0)
    · rfl
    · rw [if_pos rfl, Bool.true_and, ih (j + 1) k (by omega) (by omega)]
theorem spec_hours (l : List Int) (hl : l.length ≤ 35184372088832) (k : Nat) (hk : l.length < k) : spec_l14Hours.f k l = some (l.all hour && decide ((l.length : Int) ≤ 24)) :=
  hours_l0 l hl l.length 0 k (by omega) hk
theorem impl_ok (a b c v m : Int) (ls es : List Int) : impl_charging_ok.f a b c ls es m v = some (tankOk a b c && (decide (0 ≤ v ∧ v ≤ a) && ((ls.all hour && decide ((ls.length : Int) ≤ 24)) && hour m))) := by
  unfold impl_charging_ok.f impl_allWithin.f
  rw [impl_tank]
  have e : (ls.all fun x => decide (0 ≤ x ∧ x ≤ 1000)) = ls.all hour := rfl
  have e2 : decide (0 ≤ m ∧ m ≤ 1000) = hour m := rfl
  simp only [impl_in, e, e2, Option.bind_some]
  cases tankOk a b c
  · rfl
  · cases decide (0 ≤ v ∧ v ≤ a)
    · rfl
    · by_cases h : (ls.length : Int) ≤ 24
      · rw [if_pos h, decide_eq_true h]; cases ls.all hour <;> rfl
      · rw [if_neg h, decide_eq_false h]; simp
theorem hour_le {x : Int} (h : hour x = true) : 0 ≤ x ∧ x ≤ 1000 := of_decide_eq_true h

theorem rl_nat (l : List (List Int)) (j : Nat) : rd_L2 l (j : Int) = l.getD j [] := by unfold rd_L2; simp
def stp (a b c L most v ch : Int) : Option Int := match aft a b c v ch with
  | some x => if 0 ≤ L + ch ∧ L + ch ≤ most then some x else none
  | none => none
theorem stp_le {a b c L most v ch x : Int} (h : stp a b c L most v ch = some x) : 0 ≤ x ∧ x ≤ a := by
  unfold stp at h
  split at h
  · rename_i y e
    split at h
    · cases h; exact aft_le e
    · cases h
  · cases h
theorem set_get {l : List Int} {j : Nat} {x : Int} (h : l.getD j 0 = x) (hj : j < l.length) : l.set j x = l := by
  rw [← h, getD_lt hj, List.set_getElem_self]
theorem getD_set {X : List (List Int)} {i j : Nat} {R : List Int} (hi : i < X.length) : (X.set i R).getD j [] = if i = j then R else X.getD j [] := by
  by_cases e : i = j
  · subst e; rw [if_pos rfl, getD_lt (by rw [List.length_set]; exact hi), List.getElem_set_self]
  · rw [if_neg e, List.getD_eq_getElem?_getD, List.getD_eq_getElem?_getD, List.getElem?_set_ne e]
theorem getD_setI {R : List Int} {i j : Nat} {x : Int} (hi : i < R.length) : (R.set i x).getD j 0 = if i = j then x else R.getD j 0 := by
  by_cases e : i = j
  · subst e; rw [if_pos rfl, getD_lt (by rw [List.length_set]; exact hi), List.getElem_set_self]
  · rw [if_neg e, List.getD_eq_getElem?_getD, List.getD_eq_getElem?_getD, List.getElem?_set_ne e]
theorem cafter {a b c : Int} (ht : tankOk a b c = true) (cs es : List Int) (most : Int) (hh : cs.all hour = true) {h : Nat} (hc : h < cs.length) {v ch : Int} (hv0 : 0 ≤ v) (hv1 : v ≤ a) (h0 : -1000 ≤ ch) (h1 : ch ≤ 1000) : ∃ y, impl_charging_after.f a b c cs es most (h : Int) v ch = some (match stp a b c (cs.getD h 0) most v ch with | some x => (x, true) | none => (y, false)) := by
  have hb := hour_le (all_getD hh hc)
  obtain ⟨y, hy⟩ := impl_after (ch := ch) ht hv0 hv1 h0 h1
  unfold impl_charging_after.f stp
  rw [hy]
  cases ha : aft a b c v ch with
  | none => exact ⟨y, rfl⟩
  | some x =>
    simp only [Option.bind_some, if_true]
    rw [if_pos (by omega), if_pos (by omega), rd_nat, wrap_id (x := cs.getD h 0 + ch) (by omega) (by omega), impl_in]
    simp only [Option.bind_some]
    by_cases hf : 0 ≤ cs.getD h 0 + ch ∧ cs.getD h 0 + ch ≤ most
    · exact ⟨0, by rw [if_pos hf, decide_eq_true hf]⟩
    · exact ⟨x, by rw [if_neg hf, decide_eq_false hf]⟩

theorem toI_l0 (l : List Int) (hl : l.length ≤ 35184372088832) : ∀ (d j k : Nat) (m : List Int), j + d = l.length → d < k → m.length = l.length → (∀ i, i < j → m[i]? = l[i]?) → laws_toInt64S.l0 k l m (j : Int) = some l := by
  intro d
  induction d with
  | zero =>
    intro j k m hj hk hm hp
    obtain ⟨k, rfl⟩ := suc_of hk
    simp only [laws_toInt64S.l0]
    rw [if_neg (by omega)]
    congr 1
    apply List.ext_getElem?
    intro i
    by_cases hi : i < j
    · exact hp i hi
    · rw [List.getElem?_eq_none (by omega), List.getElem?_eq_none (by omega)]
  | succ d ih =>
    intro j k m hj hk hm hp
    obtain ⟨k, rfl⟩ := suc_of hk
    simp only [laws_toInt64S.l0]
    rw [if_pos (by omega), if_pos (by omega), if_pos (by omega), next_nat (n := l.length) (by omega) (by omega)]
    refine ih (j + 1) k _ (by omega) (by omega) (by simpa using hm) (fun i hi => ?_)
    rw [Int.toNat_natCast, rd_nat, List.getElem?_set]
    by_cases e : j = i
    · subst e
      rw [if_pos rfl, if_pos (by omega), getD_lt (by omega), List.getElem?_eq_getElem (by omega)]
    · rw [if_neg e]; exact hp i (by omega)
theorem toI (l : List Int) (hl : l.length ≤ 35184372088832) (k : Nat) (hk : l.length < k) : laws_toInt64S.f k l = some l := by
  unfold laws_toInt64S.f
  rw [if_pos (by omega), if_pos (by omega)]
  exact toI_l0 l hl l.length 0 k _ (by omega) hk (by simp) (fun i hi => absurd hi (by omega))

theorem eqI_l0 (l : List Int) (hl : l.length ≤ 35184372088832) : ∀ (d j k : Nat), j + d = l.length → d < k → laws_eqInt64S.l0 k l l (j : Int) = some true := by
  intro d
  induction d with
  | zero =>
    intro j k hj hk
    obtain ⟨k, rfl⟩ := suc_of hk
    simp only [laws_eqInt64S.l0]
    rw [if_neg (by omega)]
  | succ d ih =>
    intro j k hj hk
    obtain ⟨k, rfl⟩ := suc_of hk
    simp only [laws_eqInt64S.l0]
    rw [if_pos (by omega), if_pos (by omega), if_pos (by omega), if_pos trivial, next_nat (n := l.length) (by omega) (by omega)]
    exact ih (j + 1) k (by omega) (by omega)
theorem eqI (l : List Int) (hl : l.length ≤ 35184372088832) (k : Nat) (hk : l.length < k) : laws_eqInt64S.f k l l = some true := by
  unfold laws_eqInt64S.f
  rw [if_pos rfl]
  exact eqI_l0 l hl l.length 0 k (by omega) hk

theorem markc_l0 (c0 : Int) (hc0 : 0 ≤ c0) (hc1 : c0 ≤ 1000000000000000) : ∀ (d j k : Nat) (m : List Int) (c : Int), j + d = m.length → m.length ≤ 35184372088832 → d < k → c = c0 + (j : Int) → (∀ i, i < j → m[i]? = some (c0 + (i : Int))) →
    ∃ m', laws_markInt64S.l0 k m c (j : Int) = some (c0 + (m.length : Int), m') ∧ m'.length = m.length ∧ ∀ i, i < m'.length → m'[i]? = some (c0 + (i : Int)) := by
  intro d
  induction d with
  | zero =>
    intro j k m c hj hl hk hc hp
    obtain ⟨k, rfl⟩ := suc_of hk
    simp only [laws_markInt64S.l0]
    rw [if_neg (by omega)]
    exact ⟨m, by rw [hc]; congr 2; omega, rfl, fun i hi => hp i (by omega)⟩
  | succ d ih =>
    intro j k m c hj hl hk hc hp
    obtain ⟨k, rfl⟩ := suc_of hk
    simp only [laws_markInt64S.l0]
    rw [if_pos (by omega), if_pos (by omega), next_nat (n := m.length) (by omega) (by omega), wrap_id (x := c + 1) (by omega) (by omega), Int.toNat_natCast]
    obtain ⟨m', h1, h2, h3⟩ := ih (j + 1) k (m.set j c) (c + 1) (by simp; omega) (by simpa using hl) (by omega) (by omega) (fun i hi => by
      rw [List.getElem?_set]
      by_cases e : j = i
      · subst e; rw [if_pos rfl, if_pos (by omega), hc]
      · rw [if_neg e]; exact hp i (by omega))
    exact ⟨m', by rw [h1]; simp, by simpa using h2, h3⟩
theorem heldc_l0 (c0 : Int) (hc0 : 0 ≤ c0) (hc1 : c0 ≤ 1000000000000000) (m : List Int) (hl : m.length ≤ 35184372088832) (hm : ∀ i, i < m.length → m[i]? = some (c0 + (i : Int))) : ∀ (d j k : Nat) (c : Int), j + d = m.length → d < k → c = c0 + (j : Int) → laws_heldInt64S.l0 k m c (j : Int) = some (c0 + (m.length : Int)) := by
  intro d
  induction d with
  | zero =>
    intro j k c hj hk hc
    obtain ⟨k, rfl⟩ := suc_of hk
    simp only [laws_heldInt64S.l0]
    rw [if_neg (by omega)]
    congr 1; omega
  | succ d ih =>
    intro j k c hj hk hc
    obtain ⟨k, rfl⟩ := suc_of hk
    simp only [laws_heldInt64S.l0]
    have e : rd m (j : Int) = c := by
      rw [rd_nat, List.getD_eq_getElem?_getD, hm j (by omega), hc]; rfl
    rw [if_pos (by omega), if_pos (by omega), if_pos e, next_nat (n := m.length) (by omega) (by omega), wrap_id (x := c + 1) (by omega) (by omega)]
    exact ih (j + 1) k (c + 1) (by omega) (by omega) (by omega)
theorem markc_held (l : List Int) (c0 : Int) (hc0 : 0 ≤ c0) (hc1 : c0 ≤ 1000000000000000) (hl : l.length ≤ 35184372088832) (k : Nat) (hk : l.length < k) : ∃ m', laws_markInt64S.f k l c0 = some (c0 + (l.length : Int), m') ∧ m'.length = l.length ∧ (∀ k', l.length < k' → laws_heldInt64S.f k' m' c0 = some (c0 + (l.length : Int))) := by
  obtain ⟨m', h1, h2, h3⟩ := markc_l0 c0 hc0 hc1 l.length 0 k l c0 (by omega) hl hk (by omega) (fun i hi => absurd hi (by omega))
  refine ⟨m', h1, h2, fun k' hk' => ?_⟩
  have := heldc_l0 c0 hc0 hc1 m' (by omega) h3 m'.length 0 k' c0 (by omega) (by omega) (by omega)
  rw [h2] at this
  exact this

def upb (a b c L E most v : Int) (Q : List Int) (ch acc : Int) : Int := match stp a b c L most v ch with
  | some x => if rd Q x < 0 then acc else if acc < 0 then wrap64 (rd Q x + wrap64 (wrap64 (L + ch) * E)) else if wrap64 (rd Q x + wrap64 (wrap64 (L + ch) * E)) < acc then wrap64 (rd Q x + wrap64 (wrap64 (L + ch) * E)) else acc
  | none => acc
def bst (a b c L E most v : Int) (Q : List Int) : Nat → Int → Int → Int
  | 0, _, acc => acc
  | n + 1, ch, acc => bst a b c L E most v Q n (ch + 1) (upb a b c L E most v Q ch acc)
def rowOf (a b c most : Int) : List Int → List Int → List Int
  | L :: t, E :: u => (List.range (a + 1).toNat).map fun (j : Nat) => bst a b c L E most (j : Int) (rowOf a b c most t u) (2 * b + 1).toNat (-b) (-1)
  | _, _ => List.replicate (a + 1).toNat 0
theorem rowOf_len (a b c most : Int) (l m : List Int) : (rowOf a b c most l m).length = (a + 1).toNat := by
  unfold rowOf; split <;> simp
theorem rowOf_cons (a b c most L E : Int) (t u : List Int) : rowOf a b c most (L :: t) (E :: u) = (List.range (a + 1).toNat).map fun (j : Nat) => bst a b c L E most (j : Int) (rowOf a b c most t u) (2 * b + 1).toNat (-b) (-1) := rfl
theorem rowOf_drop (a b c most : Int) (cs es : List Int) (he : es.length = cs.length) (h : Nat) (hc : h < cs.length) : rowOf a b c most (cs.drop h) (es.drop h) = (List.range (a + 1).toNat).map fun (j : Nat) => bst a b c (cs.getD h 0) (es.getD h 0) most (j : Int) (rowOf a b c most (cs.drop (h + 1)) (es.drop (h + 1))) (2 * b + 1).toNat (-b) (-1) := by
  rw [drop_cons cs hc 0, drop_cons es (by omega : h < es.length) 0, rowOf_cons]
theorem spec_b2 {a b c : Int} (ht : tankOk a b c = true) (cs es : List Int) (he : es.length = cs.length) (most : Int) (hh : cs.all hour = true) (Q : List Int) (hQ : Q.length = (a + 1).toNat) (X : List (List Int)) (hX0 : 0 < X.length) (hXQ : X.getD 0 [] = Q) (h : Nat) (hc : h < cs.length) (hc24 : cs.length ≤ 24) (v : Nat) (hv1 : (v : Int) ≤ a) (R : List Int) (hR : R.length = v) (k : Nat) (Good : List (List Int) → Prop) :
    ∀ (n : Nat) (ch acc : Int), -b ≤ ch → ch + (n : Int) = b + 1 →
    (∃ r, spec_l14Table.l1 k [(⟨a, b, c⟩ : S26)] cs es most X (h : Int) (R ++ [bst a b c (cs.getD h 0) (es.getD h 0) most (v : Int) Q n ch acc]) (wrap64 ((v : Int) + 1)) = some r ∧ Good r) →
    ∃ r, spec_l14Table.l2 (k + 2 * n + 1) [(⟨a, b, c⟩ : S26)] cs es most X (h : Int) R (v : Int) acc ch = some r ∧ Good r := by
  have t := tankOk_iff.1 ht
  have e : rd_T26 [(⟨a, b, c⟩ : S26)] 0 = ⟨a, b, c⟩ := rfl
  have e0 : rd_L2 X 0 = X.getD 0 [] := rl_nat X 0
  intro n
  induction n with
  | zero =>
    intro ch acc h0 h1 hyp
    rw [show k + 2 * 0 + 1 = k + 1 by omega]
    simp only [spec_l14Table.l2, e]
    rw [if_pos (by simp), if_neg (by omega), if_pos (by omega)]
    exact hyp
  | succ n ih =>
    intro ch acc h0 h1 hyp
    have hb := hour_le (all_getD hh hc)
    obtain ⟨K, hK⟩ : ∃ K, K = k + 2 * n + 1 := ⟨_, rfl⟩
    rw [show k + 2 * (n + 1) + 1 = K + 1 + 1 by omega]
    simp only [← hK] at ih
    unfold bst at hyp
    have go := ih (ch + 1) (upb a b c (cs.getD h 0) (es.getD h 0) most (v : Int) Q ch acc) (by omega) (by omega) hyp
    clear ih hyp
    simp only [spec_l14Table.l2, spec_l14Table.j3, e]
    rw [if_pos (by simp), if_pos (by omega), spec_after ht (by omega) hv1 (by omega) (by omega), wrap_id (x := ch + 1) (by omega) (by omega)]
    simp only [Option.bind_some, e0, hXQ, rd_nat]
    cases ha : aft a b c (v : Int) ch with
    | none =>
      have hs : upb a b c (cs.getD h 0) (es.getD h 0) most (v : Int) Q ch acc = acc := by unfold upb stp; rw [ha]
      rw [hs] at go
      exact go
    | some x =>
      have hx := aft_le ha
      simp only [if_true]
      rw [if_pos (by omega), if_pos (by omega), wrap_id (x := cs.getD h 0 + ch) (by omega) (by omega), spec_in]
      simp only [Option.bind_some]
      by_cases hf : 0 ≤ cs.getD h 0 + ch ∧ cs.getD h 0 + ch ≤ most
      · have hs : upb a b c (cs.getD h 0) (es.getD h 0) most (v : Int) Q ch acc = if rd Q x < 0 then acc else if acc < 0 then wrap64 (rd Q x + wrap64 ((cs.getD h 0 + ch) * es.getD h 0)) else if wrap64 (rd Q x + wrap64 ((cs.getD h 0 + ch) * es.getD h 0)) < acc then wrap64 (rd Q x + wrap64 ((cs.getD h 0 + ch) * es.getD h 0)) else acc := by
          unfold upb stp; rw [ha]; simp only [if_pos hf]; rw [wrap_id (x := cs.getD h 0 + ch) (by omega) (by omega)]
        rw [hs] at go
        clear hs
        rw [decide_eq_true hf, if_pos rfl, if_pos (show (0 : Int) < (X.length : Int) by omega), if_pos hx.1, if_pos (show x < (Q.length : Int) by omega)]
        by_cases c1 : rd Q x < 0
        · rw [if_pos c1] at go
          rw [decide_eq_true c1, if_pos rfl]
          exact go
        · rw [if_neg c1] at go
          rw [decide_eq_false c1, if_neg Bool.false_ne_true, if_pos (show (0 : Int) < (X.length : Int) by omega), if_pos hx.1, if_pos (show x < (Q.length : Int) by omega), if_pos (show (0 : Int) ≤ (h : Int) by omega), if_pos (show (h : Int) < (cs.length : Int) by omega), if_pos (show (h : Int) < (es.length : Int) by omega)]
          by_cases c2 : acc < 0
          · rw [if_pos c2] at go ⊢; exact go
          · rw [if_neg c2] at go ⊢
            by_cases c3 : wrap64 (rd Q x + wrap64 ((cs.getD h 0 + ch) * es.getD h 0)) < acc
            · rw [if_pos c3] at go ⊢; exact go
            · rw [if_neg c3] at go ⊢; exact go
      · have hs : upb a b c (cs.getD h 0) (es.getD h 0) most (v : Int) Q ch acc = acc := by unfold upb stp; rw [ha]; simp only [if_neg hf]
        rw [hs] at go
        rw [decide_eq_false hf, if_neg Bool.false_ne_true]
        exact go
theorem spec_b1 {a b c : Int} (ht : tankOk a b c = true) (cs es : List Int) (he : es.length = cs.length) (most : Int) (hh : cs.all hour = true) (Q : List Int) (hQ : Q.length = (a + 1).toNat) (X : List (List Int)) (hX0 : 0 < X.length) (hXl : X.length ≤ 100) (hXQ : X.getD 0 [] = Q) (h : Nat) (hc : h < cs.length) (hc24 : cs.length ≤ 24) (k : Nat) (Good : List (List Int) → Prop)
    (hyp : ∃ r, spec_l14Table.l0 k [(⟨a, b, c⟩ : S26)] cs es most (((List.range (a + 1).toNat).map fun (j : Nat) => bst a b c (cs.getD h 0) (es.getD h 0) most (j : Int) Q (2 * b + 1).toNat (-b) (-1)) :: X) (wrap64 ((h : Int) - 1)) = some r ∧ Good r) :
    ∀ (n v : Nat), v + n = (a + 1).toNat → ∃ r, spec_l14Table.l1 (k + 100 * n + 1) [(⟨a, b, c⟩ : S26)] cs es most X (h : Int) ((List.range v).map fun (j : Nat) => bst a b c (cs.getD h 0) (es.getD h 0) most (j : Int) Q (2 * b + 1).toNat (-b) (-1)) (v : Int) = some r ∧ Good r := by
  have t := tankOk_iff.1 ht
  have e : rd_T26 [(⟨a, b, c⟩ : S26)] 0 = ⟨a, b, c⟩ := rfl
  intro n
  induction n with
  | zero =>
    intro v hv
    rw [show k + 100 * 0 + 1 = k + 1 by omega, show v = (a + 1).toNat by omega]
    simp only [spec_l14Table.l1, e, Option.bind_some]
    rw [if_pos (by simp), if_neg (by omega), if_pos (by simp; omega)]
    exact hyp
  | succ n ih =>
    intro v hv
    obtain ⟨Y, hY⟩ : ∃ Y, Y = k + 100 * n + 100 := ⟨_, rfl⟩
    rw [show k + 100 * (n + 1) + 1 = Y + 1 by omega]
    simp only [spec_l14Table.l1, e]
    rw [if_pos (by simp), if_pos (by omega), wrap_id (x := -b) (by omega) (by omega)]
    have go := ih (v + 1) (by omega)
    rw [List.range_succ, List.map_append, ← next_nat (n := (a + 1).toNat) (by omega) (by omega)] at go
    obtain ⟨r, r1, r2⟩ := spec_b2 ht cs es he most hh Q hQ X hX0 hXQ h hc hc24 v (by omega) _ (by simp) (k + 100 * n + 1) Good (2 * b + 1).toNat (-b) (-1) (by omega) (by omega) go
    exact ⟨r, up (g := fun k => spec_l14Table.l2 k [(⟨a, b, c⟩ : S26)] cs es most X (h : Int) _ (v : Int) (-1) (-b)) (fun k => (spec_l14Table.mono_l k).2.2.1 _ _ _ _ _ _ _ _ _ _) r1 _ (by omega), r2⟩
def TabOk (a b c most : Int) (cs es : List Int) (T : List (List Int)) : Prop := T.length = cs.length + 1 ∧ ∀ j, j ≤ cs.length → T.getD j [] = rowOf a b c most (cs.drop j) (es.drop j)
theorem spec_tab {a b c : Int} (ht : tankOk a b c = true) (cs es : List Int) (he : es.length = cs.length) (hl : cs.length ≤ 24) (most : Int) (hh : cs.all hour = true) : ∀ (h : Nat) (X : List (List Int)), h ≤ cs.length → X.length + h = cs.length + 1 → (∀ j, j + h ≤ cs.length → X.getD j [] = rowOf a b c most (cs.drop (h + j)) (es.drop (h + j))) →
    ∃ r, spec_l14Table.l0 (11000 * h + 1) [(⟨a, b, c⟩ : S26)] cs es most X ((h : Int) - 1) = some r ∧ TabOk a b c most cs es r := by
  have t := tankOk_iff.1 ht
  intro h
  induction h with
  | zero =>
    intro X hd hX hT
    simp only [spec_l14Table.l0]
    rw [if_neg (by omega)]
    exact ⟨X, rfl, by omega, fun j hj => by rw [hT j (by omega), Nat.zero_add]⟩
  | succ h ih =>
    intro X hd hX hT
    obtain ⟨Y, hY⟩ : ∃ Y, Y = 11000 * h + 11000 := ⟨_, rfl⟩
    rw [show 11000 * (h + 1) + 1 = Y + 1 by omega, show ((h + 1 : Nat) : Int) - 1 = (h : Int) by omega]
    simp only [spec_l14Table.l0]
    rw [if_pos (by omega)]
    have h0 := hT 0 (by omega)
    rw [Nat.add_zero] at h0
    obtain ⟨r, r1, r2⟩ := spec_b1 ht cs es he most hh (rowOf a b c most (cs.drop (h + 1)) (es.drop (h + 1))) (rowOf_len _ _ _ _ _ _) X (by omega) (by omega) h0 h (by omega) hl (11000 * h + 1) (TabOk a b c most cs es) (by
      rw [← rowOf_drop a b c most cs es he h (by omega), wrap_id (x := (h : Int) - 1) (by omega) (by omega)]
      refine ih _ (by omega) (by simp; omega) (fun j hj => ?_)
      cases j with
      | zero => rfl
      | succ j => rw [List.getD_cons_succ, hT j (by omega), show h + (j + 1) = h + 1 + j by omega]) (a + 1).toNat 0 (by omega)
    exact ⟨r, up (g := fun k => spec_l14Table.l1 k [(⟨a, b, c⟩ : S26)] cs es most X (h : Int) [] 0) (fun k => (spec_l14Table.mono_l k).2.1 _ _ _ _ _ _ _ _) r1 _ (by omega), r2⟩
theorem impl_b2 {a b c : Int} (ht : tankOk a b c = true) (cs es : List Int) (he : es.length = cs.length) (most : Int) (hh : cs.all hour = true) (Q : List Int) (hQ : Q.length = (a + 1).toNat) (h : Nat) (hc : h < cs.length) (hc24 : cs.length ≤ 24) (v : Nat) (hv1 : (v : Int) ≤ a) (N : Int) (R : List Int) (hR : R.length = (a + 1).toNat) (k : Nat) (Good : List (List Int) → Prop) :
    ∀ (n : Nat) (ch : Int) (X : List (List Int)) (acc : Int), X.length = cs.length + 1 → X.getD (h + 1) [] = Q → X.getD h [] = R.set v acc → -b ≤ ch → ch + (n : Int) = b + 1 →
    (∀ X', X'.length = cs.length + 1 → (∀ j, j ≠ h → X'.getD j [] = X.getD j []) → X'.getD h [] = R.set v (bst a b c (cs.getD h 0) (es.getD h 0) most (v : Int) Q n ch acc) → ∃ r, impl_charging_costs.l1 k X' (h : Int) N (wrap64 ((v : Int) + 1)) a b c cs es most = some r ∧ Good r) →
    ∃ r, impl_charging_costs.l2 (k + 2 * n + 1) X (h : Int) (v : Int) ch N (v : Int) a b c cs es most = some r ∧ Good r := by
  have t := tankOk_iff.1 ht
  intro n
  induction n with
  | zero =>
    intro ch X acc hX hX1 hX0 h0 h1 hyp
    rw [show k + 2 * 0 + 1 = k + 1 by omega]
    simp only [impl_charging_costs.l2]
    rw [if_neg (by omega)]
    exact hyp X hX (fun _ _ => rfl) hX0
  | succ n ih =>
    intro ch X acc hX hX1 hX0 h0 h1 hyp
    obtain ⟨K, hK⟩ : ∃ K, K = k + 2 * n + 1 := ⟨_, rfl⟩
    rw [show k + 2 * (n + 1) + 1 = K + 1 + 1 by omega]
    simp only [← hK] at ih
    unfold bst at hyp
    obtain ⟨y, hy⟩ := cafter (ch := ch) ht cs es most hh hc (show (0 : Int) ≤ (v : Int) by omega) hv1 (by omega) (by omega)
    have same := fun z (hz : upb a b c (cs.getD h 0) (es.getD h 0) most (v : Int) Q ch acc = z) => hz ▸ hyp
    have keep : upb a b c (cs.getD h 0) (es.getD h 0) most (v : Int) Q ch acc = acc → ∃ r, impl_charging_costs.l2 K X (h : Int) (v : Int) (ch + 1) N (v : Int) a b c cs es most = some r ∧ Good r := fun hz => ih (ch + 1) X acc hX hX1 hX0 (by omega) (by omega) (same acc hz)
    have put : ∀ z, upb a b c (cs.getD h 0) (es.getD h 0) most (v : Int) Q ch acc = z → ∃ r, impl_charging_costs.l2 K (X.set h (R.set v z)) (h : Int) (v : Int) (ch + 1) N (v : Int) a b c cs es most = some r ∧ Good r := fun z hz => ih (ch + 1) (X.set h (R.set v z)) z (by rw [List.length_set]; exact hX) (by rw [getD_set (by omega), if_neg (by omega)]; exact hX1) (by rw [getD_set (by omega), if_pos rfl]) (by omega) (by omega) (fun X' a1 a2 a3 => same z hz X' a1 (fun j hj => by rw [a2 j hj, getD_set (by omega), if_neg (fun e => hj e.symm)]) a3)
    clear same hyp ih
    simp only [impl_charging_costs.l2, impl_charging_costs.j3]
    rw [if_pos (by omega), hy, wrap_id (x := ch + 1) (by omega) (by omega)]
    simp only [Option.bind_some]
    cases hs : stp a b c (cs.getD h 0) most (v : Int) ch with
    | none =>
      have hz : upb a b c (cs.getD h 0) (es.getD h 0) most (v : Int) Q ch acc = acc := by unfold upb; rw [hs]
      exact keep hz
    | some x =>
      have hx := stp_le hs
      have hz : upb a b c (cs.getD h 0) (es.getD h 0) most (v : Int) Q ch acc = if rd Q x < 0 then acc else if acc < 0 then wrap64 (rd Q x + wrap64 (wrap64 (cs.getD h 0 + ch) * es.getD h 0)) else if wrap64 (rd Q x + wrap64 (wrap64 (cs.getD h 0 + ch) * es.getD h 0)) < acc then wrap64 (rd Q x + wrap64 (wrap64 (cs.getD h 0 + ch) * es.getD h 0)) else acc := by unfold upb; rw [hs]
      have hR0 : (R.set v acc).length = (a + 1).toNat := by rw [List.length_set]; exact hR
      have er : rd (R.set v acc) (v : Int) = acc := by rw [rd_nat, getD_setI (by omega), if_pos rfl]
      simp only [if_true]
      unfold impl_charging_price.f
      rw [next_nat (n := cs.length) (by omega) (by omega)]
      simp only [rl_nat, hX1, hX0, er, rd_nat, Int.toNat_natCast, List.set_set]
      rw [if_pos (by omega), if_pos (by omega), if_pos hx.1, if_pos (show x < (Q.length : Int) by omega)]
      by_cases c1 : rd Q x < 0
      · rw [if_pos c1] at hz
        rw [decide_eq_true c1, if_pos rfl]
        exact keep hz
      · rw [if_neg c1] at hz
        rw [decide_eq_false c1, if_neg Bool.false_ne_true, if_pos (show (0 : Int) ≤ (h : Int) by omega), if_pos (show (h : Int) < (cs.length : Int) by omega), if_pos (show (h : Int) < (es.length : Int) by omega), Option.bind_some, if_pos (show (0 : Int) ≤ ((h + 1 : Nat) : Int) by omega), if_pos (show ((h + 1 : Nat) : Int) < (X.length : Int) by omega), if_pos hx.1, if_pos (show x < (Q.length : Int) by omega), if_pos (show (0 : Int) ≤ (h : Int) by omega), if_pos (show (h : Int) < (X.length : Int) by omega), if_pos (show (0 : Int) ≤ (v : Int) by omega), if_pos (show (v : Int) < ((R.set v acc).length : Int) by omega), Int.add_comm (wrap64 (wrap64 (cs.getD h 0 + ch) * es.getD h 0)) (rd Q x)]
        by_cases c2 : acc < 0
        · rw [if_pos c2] at hz ⊢; exact put _ hz
        · rw [if_neg c2] at hz ⊢
          by_cases c3 : wrap64 (rd Q x + wrap64 (wrap64 (cs.getD h 0 + ch) * es.getD h 0)) < acc
          · rw [if_pos c3] at hz ⊢; exact put _ hz
          · rw [if_neg c3] at hz ⊢; exact keep hz
theorem impl_b1 {a b c : Int} (ht : tankOk a b c = true) (cs es : List Int) (he : es.length = cs.length) (most : Int) (hh : cs.all hour = true) (Q : List Int) (hQ : Q.length = (a + 1).toNat) (h : Nat) (hc : h < cs.length) (hc24 : cs.length ≤ 24) (k : Nat) (Good : List (List Int) → Prop) (X0 : List (List Int))
    (hyp : ∀ X', X'.length = cs.length + 1 → (∀ j, j ≠ h → X'.getD j [] = X0.getD j []) → X'.getD h [] = ((List.range (a + 1).toNat).map fun (j : Nat) => bst a b c (cs.getD h 0) (es.getD h 0) most (j : Int) Q (2 * b + 1).toNat (-b) (-1)) → ∃ r, impl_charging_costs.l0 k X' (wrap64 ((h : Int) - 1)) a b c cs es most = some r ∧ Good r) :
    ∀ (n v : Nat) (X : List (List Int)), X.length = cs.length + 1 → X.getD (h + 1) [] = Q → (∀ j, j ≠ h → X.getD j [] = X0.getD j []) → (X.getD h []).length = (a + 1).toNat → (∀ j, j < v → (X.getD h []).getD j 0 = bst a b c (cs.getD h 0) (es.getD h 0) most (j : Int) Q (2 * b + 1).toNat (-b) (-1)) → v + n = (a + 1).toNat →
    ∃ r, impl_charging_costs.l1 (k + 100 * n + 1) X (h : Int) (((a + 1).toNat : Nat) : Int) (v : Int) a b c cs es most = some r ∧ Good r := by
  have t := tankOk_iff.1 ht
  intro n
  induction n with
  | zero =>
    intro v X hX hX1 hXo hXl hA hv
    rw [show k + 100 * 0 + 1 = k + 1 by omega]
    simp only [impl_charging_costs.l1]
    rw [if_neg (by omega)]
    refine hyp X hX hXo (List.ext_getElem (by rw [hXl]; simp) (fun j j1 j2 => ?_))
    have := hA j (by omega)
    rw [getD_lt j1] at this
    rw [this, List.getElem_map, List.getElem_range]
  | succ n ih =>
    intro v X hX hX1 hXo hXl hA hv
    obtain ⟨Y, hY⟩ : ∃ Y, Y = k + 100 * n + 100 := ⟨_, rfl⟩
    rw [show k + 100 * (n + 1) + 1 = Y + 1 by omega]
    simp only [impl_charging_costs.l1, rl_nat, Int.toNat_natCast]
    rw [if_pos (by omega), if_pos (by omega), if_pos (by omega), if_pos (by omega), if_pos (by omega), wrap_id (x := -b) (by omega) (by omega)]
    obtain ⟨r, r1, r2⟩ := impl_b2 ht cs es he most hh Q hQ h hc hc24 v (by omega) (((a + 1).toNat : Nat) : Int) (X.getD h []) hXl (k + 100 * n + 1) Good (2 * b + 1).toNat (-b) (X.set h ((X.getD h []).set v (-1))) (-1) (by rw [List.length_set]; exact hX) (by rw [getD_set (by omega), if_neg (by omega)]; exact hX1) (by rw [getD_set (by omega), if_pos rfl]) (by omega) (by omega) (fun X' a1 a2 a3 => by
      rw [next_nat (n := (a + 1).toNat) (by omega) (by omega)]
      have o : ∀ j, j ≠ h → X'.getD j [] = X.getD j [] := fun j hj => by rw [a2 j hj, getD_set (by omega), if_neg (fun e => hj e.symm)]
      refine ih (v + 1) X' a1 (by rw [o _ (by omega)]; exact hX1) (fun j hj => by rw [o j hj, hXo j hj]) (by rw [a3, List.length_set]; exact hXl) (fun j hj => ?_) (by omega)
      rw [a3, getD_setI (by omega)]
      by_cases e : v = j
      · subst e; rw [if_pos rfl]
      · rw [if_neg e]; exact hA j (by omega))
    exact ⟨r, up (g := fun k => impl_charging_costs.l2 k _ (h : Int) (v : Int) (-b) (((a + 1).toNat : Nat) : Int) (v : Int) a b c cs es most) (fun k => (impl_charging_costs.mono_l k).2.2.1 _ _ _ _ _ _ _ _ _ _ _ _) r1 _ (by omega), r2⟩
theorem impl_tab {a b c : Int} (ht : tankOk a b c = true) (cs es : List Int) (he : es.length = cs.length) (hl : cs.length ≤ 24) (most : Int) (hh : cs.all hour = true) : ∀ (h : Nat) (X : List (List Int)), h ≤ cs.length → X.length = cs.length + 1 → (∀ j, h ≤ j → j ≤ cs.length → X.getD j [] = rowOf a b c most (cs.drop j) (es.drop j)) →
    ∃ r, impl_charging_costs.l0 (11000 * h + 1) X ((h : Int) - 1) a b c cs es most = some r ∧ TabOk a b c most cs es r := by
  have t := tankOk_iff.1 ht
  intro h
  induction h with
  | zero =>
    intro X hd hX hT
    simp only [impl_charging_costs.l0]
    rw [if_neg (by omega)]
    exact ⟨X, rfl, hX, fun j hj => hT j (by omega) hj⟩
  | succ h ih =>
    intro X hd hX hT
    obtain ⟨Y, hY⟩ : ∃ Y, Y = 11000 * h + 11000 := ⟨_, rfl⟩
    rw [show 11000 * (h + 1) + 1 = Y + 1 by omega, show ((h + 1 : Nat) : Int) - 1 = (h : Int) by omega]
    have eN : wrap64 (a + 1) = a + 1 := wrap_id (by omega) (by omega)
    simp only [impl_charging_costs.l0, Option.bind_some, eN, Int.toNat_natCast, rl_nat]
    clear eN
    rw [if_pos (by omega), if_pos (by omega), if_pos (by omega), if_pos (by omega), if_pos (by omega), getD_set (by omega), if_pos rfl, List.length_replicate]
    obtain ⟨r, r1, r2⟩ := impl_b1 ht cs es he most hh (rowOf a b c most (cs.drop (h + 1)) (es.drop (h + 1))) (rowOf_len _ _ _ _ _ _) h (by omega) hl (11000 * h + 1) (TabOk a b c most cs es) X (fun X' a1 a2 a3 => by
      rw [wrap_id (x := (h : Int) - 1) (by omega) (by omega)]
      refine ih X' (by omega) a1 (fun j j1 j2 => ?_)
      by_cases e : j = h
      · subst e; exact a3.trans (rowOf_drop a b c most cs es he j (by omega)).symm
      · rw [a2 j e]; exact hT j (by omega) j2) (a + 1).toNat 0 (X.set h (List.replicate (a + 1).toNat 0)) (by rw [List.length_set]; exact hX) (by rw [getD_set (by omega), if_neg (by omega)]; exact hT (h + 1) (by omega) (by omega)) (fun j hj => by rw [getD_set (by omega), if_neg (fun e => hj e.symm)]) (by rw [getD_set (by omega), if_pos rfl, List.length_replicate]) (fun j hj => absurd hj (by omega)) (by omega)
    exact ⟨r, up (g := fun k => impl_charging_costs.l1 k _ (h : Int) _ 0 a b c cs es most) (fun k => (impl_charging_costs.mono_l k).2.1 _ _ _ _ _ _ _ _ _ _) r1 _ (by omega), r2⟩
theorem bne_castI (a b : Nat) : ((a : Int) != (b : Int)) = !(decide (a = b)) := by
  by_cases h : a = b
  · subst h; simp
  · rw [decide_eq_false h]; simp; omega
theorem beq_dec (x y : Int) : (x == y) = decide (x = y) := rfl
def hit (Q R : List Int) (L E ch x v : Int) : Bool := decide (wrap64 (rd Q x + wrap64 (wrap64 (L + ch) * E)) = rd R v)
theorem walk_s1 {a b c : Int} (ht : tankOk a b c = true) (cs es : List Int) (he : es.length = cs.length) (hl : cs.length ≤ 24) (most : Int) (hh : cs.all hour = true) (T : List (List Int)) (hT : T.length = cs.length + 1) (v0 : Int) (h : Nat) (hc : h < cs.length) (hQ : (T.getD (h + 1) []).length = (a + 1).toNat) (hR : (T.getD h []).length = (a + 1).toNat) (ans : List Int) (v : Int) (hv0 : 0 ≤ v) (hv1 : v ≤ a) (hn : ans.length ≤ h) (ch : Int) (h0 : -b ≤ ch) (h1 : ch ≤ b) : ∀ k, spec_BestCharging.l1 (k + 1) v0 cs es most T ans v (h : Int) ch a b c = match stp a b c (cs.getD h 0) most v ch with
    | some x => if rd (T.getD (h + 1) []) x ≥ 0 then spec_BestCharging.j4 k v0 cs es most T ans v (h : Int) ch x (hit (T.getD (h + 1) []) (T.getD h []) (cs.getD h 0) (es.getD h 0) ch x v) a b c else spec_BestCharging.j4 k v0 cs es most T ans v (h : Int) ch x false a b c
    | none => spec_BestCharging.j4 k v0 cs es most T ans v (h : Int) ch (match aft a b c v ch with | some x => x | none => 0) false a b c := by
  have t := tankOk_iff.1 ht
  have hb := hour_le (all_getD hh hc)
  intro k
  unfold hit
  simp only [spec_BestCharging.l1]
  rw [if_pos (by omega), spec_after ht hv0 hv1 (by omega) (by omega)]
  unfold stp
  cases ha : aft a b c v ch with
  | none => rfl
  | some x =>
    have hx := aft_le ha
    simp only [Option.bind_some, if_true, beq_dec, rd_nat, rl_nat]
    rw [if_pos (by omega), if_pos (by omega), next_nat (n := cs.length) (by omega) (by omega), wrap_id (x := cs.getD h 0 + ch) (by omega) (by omega), spec_in]
    simp only [Option.bind_some, rl_nat]
    by_cases hf : 0 ≤ cs.getD h 0 + ch ∧ cs.getD h 0 + ch ≤ most
    · rw [decide_eq_true hf, if_pos rfl, if_pos hf, if_pos (by omega), if_pos (by omega), if_pos hx.1, if_pos (show x < ((T.getD (h + 1) []).length : Int) by omega), if_pos (show (h : Int) < (es.length : Int) by omega), if_pos (show (h : Int) < (T.length : Int) by omega), if_pos hv0, if_pos (show v < ((T.getD h []).length : Int) by omega)]
    · rw [decide_eq_false hf, if_neg Bool.false_ne_true, if_neg hf]
theorem walk_i1 {a b c : Int} (ht : tankOk a b c = true) (cs es : List Int) (he : es.length = cs.length) (hl : cs.length ≤ 24) (most : Int) (hh : cs.all hour = true) (T : List (List Int)) (hT : T.length = cs.length + 1) (c0 : Int) (h : Nat) (hc : h < cs.length) (hQ : (T.getD (h + 1) []).length = (a + 1).toNat) (hR : (T.getD h []).length = (a + 1).toNat) (ans : List Int) (v : Int) (hv0 : 0 ≤ v) (hv1 : v ≤ a) (hn : ans.length ≤ h) (ch : Int) (h0 : -b ≤ ch) (h1 : ch ≤ b) : ∀ k, impl_BestCharging.l1 (k + 1) T c0 ans v (h : Int) ch (cs.length : Int) (h : Int) a b c a b c cs es most = match stp a b c (cs.getD h 0) most v ch with
    | some x => if rd (T.getD (h + 1) []) x ≥ 0 then (if hit (T.getD (h + 1) []) (T.getD h []) (cs.getD h 0) (es.getD h 0) ch x v = true then impl_BestCharging.l0 k T c0 (ans ++ [ch]) x (cs.length : Int) (wrap64 ((h : Int) + 1)) a b c a b c cs es most else impl_BestCharging.l1 k T c0 ans v (h : Int) (wrap64 (ch + 1)) (cs.length : Int) (h : Int) a b c a b c cs es most) else impl_BestCharging.l1 k T c0 ans v (h : Int) (wrap64 (ch + 1)) (cs.length : Int) (h : Int) a b c a b c cs es most
    | none => impl_BestCharging.l1 k T c0 ans v (h : Int) (wrap64 (ch + 1)) (cs.length : Int) (h : Int) a b c a b c cs es most := by
  have t := tankOk_iff.1 ht
  have hb := hour_le (all_getD hh hc)
  obtain ⟨y, hy⟩ := cafter (ch := ch) ht cs es most hh hc hv0 hv1 (by omega) (by omega)
  intro k
  have hlen : ans.length < 17592186044416 := by omega
  have q0 : ch ≤ b := by omega
  have q1 : (0 : Int) ≤ ((h + 1 : Nat) : Int) := by omega
  have q2 : ((h + 1 : Nat) : Int) < (T.length : Int) := by omega
  have q3 : (0 : Int) ≤ (h : Int) := by omega
  have q4 : (h : Int) < (cs.length : Int) := by omega
  have q5 : (h : Int) < (es.length : Int) := by omega
  have q6 : (h : Int) < (T.length : Int) := by omega
  have q7 : v < ((T.getD h []).length : Int) := by omega
  have q8 : wrap64 ((h : Int) + 1) = ((h + 1 : Nat) : Int) := next_nat (n := cs.length) (by omega) (by omega)
  simp only [impl_BestCharging.l1]
  rw [if_pos q0, hy]
  clear hy
  cases hs : stp a b c (cs.getD h 0) most v ch with
  | none => rfl
  | some x =>
    have hx := stp_le hs
    have q9 : x < ((T.getD (h + 1) []).length : Int) := by clear q8; omega
    unfold impl_charging_price.f
    simp only [Option.bind_some, if_true, rd_nat, rl_nat, q8, q1, q2, q3, q4, q5, q6, q7, q9, hlen, hx.1, hv0]
    rw [Int.add_comm (wrap64 (wrap64 (cs.getD h 0 + ch) * es.getD h 0))]
    by_cases c1 : rd (T.getD (h + 1) []) x ≥ 0
    · rw [if_pos c1, if_pos c1]
      by_cases c2 : wrap64 (rd (T.getD (h + 1) []) x + wrap64 (wrap64 (cs.getD h 0 + ch) * es.getD h 0)) = rd (T.getD h []) v
      · have c3 : hit (T.getD (h + 1) []) (T.getD h []) (cs.getD h 0) (es.getD h 0) ch x v = true := decide_eq_true c2
        rw [if_pos c2, c3, if_pos rfl]
      · have c3 : hit (T.getD (h + 1) []) (T.getD h []) (cs.getD h 0) (es.getD h 0) ch x v = false := decide_eq_false c2
        rw [if_neg c2, c3, if_neg Bool.false_ne_true]
    · rw [if_neg c1, if_neg c1]
theorem walk_in {a b c : Int} (ht : tankOk a b c = true) (cs es : List Int) (he : es.length = cs.length) (hl : cs.length ≤ 24) (most : Int) (hh : cs.all hour = true) (T : List (List Int)) (hT : TabOk a b c most cs es T) (v0 c0 : Int) (h : Nat) (hc : h < cs.length) (B : Nat)
    (next : ∀ (ans : List Int) (v : Int), 0 ≤ v → v ≤ a → ans.length ≤ h + 1 → ∃ r, (∀ k, B < k → spec_BestCharging.l0 k v0 cs es most T ans v ((h + 1 : Nat) : Int) a b c = some (r, c0, 0)) ∧ (∀ k, B < k → impl_BestCharging.l0 k T c0 ans v (cs.length : Int) ((h + 1 : Nat) : Int) a b c a b c cs es most = some (r, c0, 0)) ∧ r.length ≤ 100)
    (ans : List Int) (v : Int) (hv0 : 0 ≤ v) (hv1 : v ≤ a) (hn : ans.length ≤ h) : ∀ (n : Nat) (ch : Int), -b ≤ ch → ch + (n : Int) = b + 1 →
    ∃ r, (∀ k, B + 2 * n + 1 < k → spec_BestCharging.l1 k v0 cs es most T ans v (h : Int) ch a b c = some (r, c0, 0)) ∧ (∀ k, B + 2 * n + 1 < k → impl_BestCharging.l1 k T c0 ans v (h : Int) ch (cs.length : Int) (h : Int) a b c a b c cs es most = some (r, c0, 0)) ∧ r.length ≤ 100 := by
  have t := tankOk_iff.1 ht
  have hTl := hT.1
  have hQ : (T.getD (h + 1) []).length = (a + 1).toNat := by rw [hT.2 _ (by omega)]; exact rowOf_len _ _ _ _ _ _
  have hR : (T.getD h []).length = (a + 1).toNat := by rw [hT.2 _ (by omega)]; exact rowOf_len _ _ _ _ _ _
  intro n
  induction n with
  | zero =>
    intro ch h0 h1
    obtain ⟨r, s, i, hr⟩ := next ans v hv0 hv1 (by omega)
    refine ⟨r, fun k hk => ?_, fun k hk => ?_, hr⟩
    · obtain ⟨k, rfl⟩ := suc_of (show 0 < k by omega)
      simp only [spec_BestCharging.l1]
      rw [if_neg (by omega), next_nat (n := cs.length) (by omega) (by omega)]
      exact s k (by omega)
    · obtain ⟨k, rfl⟩ := suc_of (show 0 < k by omega)
      simp only [impl_BestCharging.l1]
      rw [if_neg (by omega), next_nat (n := cs.length) (by omega) (by omega)]
      exact i k (by omega)
  | succ n ih =>
    intro ch h0 h1
    have hb := hour_le (all_getD hh hc)
    obtain ⟨r, s, i, hr⟩ := ih (ch + 1) (by omega) (by omega)
    clear ih
    have bad : ∀ k x, B + 2 * (n + 1) < k → spec_BestCharging.j4 k v0 cs es most T ans v (h : Int) ch x false a b c = some (r, c0, 0) := fun k x hk => by
      obtain ⟨k, rfl⟩ := suc_of (show 0 < k by omega)
      simp only [spec_BestCharging.j4]
      rw [if_neg Bool.false_ne_true, wrap_id (x := ch + 1) (by omega) (by omega)]
      exact s k (by omega)
    have ibad : ∀ k, B + 2 * (n + 1) < k → impl_BestCharging.l1 k T c0 ans v (h : Int) (wrap64 (ch + 1)) (cs.length : Int) (h : Int) a b c a b c cs es most = some (r, c0, 0) := fun k hk => by
      rw [wrap_id (x := ch + 1) (by omega) (by omega)]
      exact i k (by omega)
    clear s i
    have es1 := walk_s1 ht cs es he hl most hh T hTl v0 h hc hQ hR ans v hv0 hv1 hn ch (by omega) (by omega)
    have ei1 := walk_i1 ht cs es he hl most hh T hTl c0 h hc hQ hR ans v hv0 hv1 hn ch (by omega) (by omega)
    cases hs : stp a b c (cs.getD h 0) most v ch with
    | none =>
      refine ⟨r, fun k hk => ?_, fun k hk => ?_, hr⟩
      · obtain ⟨k, rfl⟩ := suc_of (show 0 < k by omega)
        rw [es1, hs]; exact bad k _ (by omega)
      · obtain ⟨k, rfl⟩ := suc_of (show 0 < k by omega)
        rw [ei1, hs]; exact ibad k (by omega)
    | some x =>
      have hx := stp_le hs
      by_cases c1 : rd (T.getD (h + 1) []) x ≥ 0
      · cases c2 : hit (T.getD (h + 1) []) (T.getD h []) (cs.getD h 0) (es.getD h 0) ch x v
        · refine ⟨r, fun k hk => ?_, fun k hk => ?_, hr⟩
          · obtain ⟨k, rfl⟩ := suc_of (show 0 < k by omega)
            rw [es1, hs]
            simp only [if_pos c1, c2]
            exact bad k _ (by omega)
          · obtain ⟨k, rfl⟩ := suc_of (show 0 < k by omega)
            rw [ei1, hs]
            simp only [if_pos c1, c2]
            exact ibad k (by omega)
        · obtain ⟨q, s, i, hq⟩ := next (ans ++ [ch]) x hx.1 hx.2 (by simp; omega)
          refine ⟨q, fun k hk => ?_, fun k hk => ?_, hq⟩
          · obtain ⟨k, rfl⟩ : ∃ m, k = m + 1 + 1 := ⟨k - 2, by omega⟩
            rw [es1, hs]
            simp only [if_pos c1, c2, spec_BestCharging.j4]
            rw [if_pos trivial, if_pos (by omega), next_nat (n := cs.length) (by omega) (by omega)]
            exact s k (by omega)
          · obtain ⟨k, rfl⟩ := suc_of (show 0 < k by omega)
            rw [ei1, hs]
            simp only [if_pos c1, c2, if_true]
            rw [next_nat (n := cs.length) (by omega) (by omega)]
            exact i k (by omega)
      · refine ⟨r, fun k hk => ?_, fun k hk => ?_, hr⟩
        · obtain ⟨k, rfl⟩ := suc_of (show 0 < k by omega)
          rw [es1, hs]
          simp only [if_neg c1]
          exact bad k _ (by omega)
        · obtain ⟨k, rfl⟩ := suc_of (show 0 < k by omega)
          rw [ei1, hs]
          simp only [if_neg c1]
          exact ibad k (by omega)
theorem walk_all {a b c : Int} (ht : tankOk a b c = true) (cs es : List Int) (he : es.length = cs.length) (hl : cs.length ≤ 24) (most : Int) (hh : cs.all hour = true) (T : List (List Int)) (hT : TabOk a b c most cs es T) (v0 : Int) (hv0 : 0 ≤ v0) (hv1 : v0 ≤ a) : ∀ (d h : Nat) (ans : List Int) (v : Int), h + d = cs.length → 0 ≤ v → v ≤ a → ans.length ≤ h → ∃ r, (∀ k, 100 * d < k → spec_BestCharging.l0 k v0 cs es most T ans v (h : Int) a b c = some (r, rd (T.getD 0 []) v0, 0)) ∧ (∀ k, 100 * d < k → impl_BestCharging.l0 k T (rd (T.getD 0 []) v0) ans v (cs.length : Int) (h : Int) a b c a b c cs es most = some (r, rd (T.getD 0 []) v0, 0)) ∧ r.length ≤ 100 := by
  have t := tankOk_iff.1 ht
  have hTl := hT.1
  have hR : (T.getD 0 []).length = (a + 1).toNat := by rw [hT.2 _ (by omega)]; exact rowOf_len _ _ _ _ _ _
  have e0 : rd_L2 T 0 = T.getD 0 [] := rl_nat T 0
  intro d
  induction d with
  | zero =>
    intro h ans v hd h0 h1 hn
    refine ⟨ans, fun k hk => ?_, fun k hk => ?_, by omega⟩
    · obtain ⟨k, rfl⟩ := suc_of (show 0 < k by omega)
      simp only [spec_BestCharging.l0, e0]
      rw [if_neg (by omega), if_pos (by omega), if_pos hv0, if_pos (by omega)]
    · obtain ⟨k, rfl⟩ := suc_of (show 0 < k by omega)
      simp only [impl_BestCharging.l0]
      rw [if_neg (by omega)]
  | succ d ih =>
    intro h ans v hd h0 h1 hn
    obtain ⟨r, s, i, hr⟩ := walk_in ht cs es he hl most hh T hT v0 (rd (T.getD 0 []) v0) h (by omega) (100 * d) (fun ans v a1 a2 a3 => ih (h + 1) ans v (by omega) a1 a2 a3) ans v h0 h1 hn (2 * b + 1).toNat (-b) (by omega) (by omega)
    refine ⟨r, fun k hk => ?_, fun k hk => ?_, hr⟩
    · obtain ⟨k, rfl⟩ := suc_of (show 0 < k by omega)
      simp only [spec_BestCharging.l0]
      rw [if_pos (by omega), wrap_id (x := -b) (by omega) (by omega)]
      exact s k (by omega)
    · obtain ⟨k, rfl⟩ := suc_of (show 0 < k by omega)
      simp only [impl_BestCharging.l0]
      rw [if_pos (by omega), wrap_id (x := -b) (by omega) (by omega)]
      exact i k (by omega)
theorem TabOk_one {a b c most : Int} {cs es : List Int} {X Y : List (List Int)} (hX : TabOk a b c most cs es X) (hY : TabOk a b c most cs es Y) : X = Y := by
  have x := hX.1
  have y := hY.1
  refine List.ext_getElem (by omega) (fun j j1 j2 => ?_)
  rw [← getD_lt (d := []) j1, ← getD_lt (d := []) j2, hX.2 j (by omega), hY.2 j (by omega)]
theorem best_both (a b c v most : Int) (cs es : List Int) (hl : cs.length ≤ 1048576) (hm : es.length ≤ 1048576) : ∃ r m e, (∀ k, 2000000 ≤ k → spec_BestCharging.f k a b c v cs es most = some (r, m, e)) ∧ (∀ k, 2000000 ≤ k → impl_BestCharging.f k a b c v cs es most = some (r, m, e)) ∧ r.length ≤ 100 := by
  have h2 : ∀ k, 2000000 ≤ k → spec_l14Hours.f k cs = some (cs.all hour && decide ((cs.length : Int) ≤ 24)) := fun k hk => spec_hours cs (by omega) k (by omega)
  have h3 : ∀ k, 2000000 ≤ k → spec_l14Hours.f k es = some (es.all hour && decide ((es.length : Int) ≤ 24)) := fun k hk => spec_hours es (by omega) k (by omega)
  have e : rd_T26 [(⟨a, b, c⟩ : S26)] 0 = ⟨a, b, c⟩ := rfl
  have ask : ∀ k, 2000000 ≤ k → spec_l14Ask.f k [(⟨a, b, c⟩ : S26)] v cs most = some (if tankOk a b c = true then (if (decide (0 ≤ v ∧ v ≤ a) && ((cs.all hour && decide ((cs.length : Int) ≤ 24)) && hour most)) = true then 0 else 2) else 1) := by
    intro k hk
    unfold spec_l14Ask.f spec_l14Most.f
    have e2 : decide (0 ≤ most ∧ most ≤ 1000) = hour most := rfl
    simp only [spec_tank, h2 k hk, spec_in, Option.bind_some, e, e2]
    cases tankOk a b c
    · rfl
    · simp only [if_true]
      rw [if_pos (by simp)]
      cases decide (0 ≤ v ∧ v ≤ a)
      · rfl
      · cases (cs.all hour && decide ((cs.length : Int) ≤ 24))
        · rfl
        · cases hour most <;> rfl
  have out : ∀ k x, x ≠ 0 → spec_BestCharging.j0 (k + 1 + 1) v cs es most x false a b c = some ([], 0, x) := fun k x hx => by
    simp only [spec_BestCharging.j0, spec_BestCharging.j1]
    rw [if_neg Bool.false_ne_true, if_neg hx]
  have out2 : ∀ k, spec_BestCharging.j0 (k + 1 + 1) v cs es most 0 true a b c = some ([], 0, 2) := fun k => by
    simp only [spec_BestCharging.j0, spec_BestCharging.j1]
    rw [if_pos trivial, if_neg (by omega)]
  have ee : (es.all fun x => decide (0 ≤ x ∧ x ≤ 1000)) = es.all hour := rfl
  cases ht : tankOk a b c
  · refine ⟨[], 0, 1, fun k hk => ?_, fun k hk => ?_, by simp⟩
    · obtain ⟨k, rfl⟩ : ∃ m, k = m + 1 + 1 := ⟨k - 2, by omega⟩
      unfold spec_BestCharging.f
      rw [ask _ hk, ht]
      exact out k 1 (by omega)
    · unfold impl_BestCharging.f
      rw [impl_tank, ht]; simp
  · have t := tankOk_iff.1 ht
    cases hb : (decide (0 ≤ v ∧ v ≤ a) && ((cs.all hour && decide ((cs.length : Int) ≤ 24)) && hour most))
    · refine ⟨[], 0, 2, fun k hk => ?_, fun k hk => ?_, by simp⟩
      · obtain ⟨k, rfl⟩ : ∃ m, k = m + 1 + 1 := ⟨k - 2, by omega⟩
        unfold spec_BestCharging.f
        rw [ask _ hk, ht, hb]
        exact out k 2 (by omega)
      · unfold impl_BestCharging.f
        rw [impl_tank, impl_ok, ht, hb]; simp
    · have hb' := hb
      simp only [Bool.and_eq_true, decide_eq_true_eq] at hb'
      obtain ⟨hv, ⟨hh, h24⟩, hmm⟩ := hb'
      have h24' : cs.length ≤ 24 := by omega
      by_cases hlen : es.length = cs.length
      · cases hes : es.all hour
        · refine ⟨[], 0, 2, fun k hk => ?_, fun k hk => ?_, by simp⟩
          · obtain ⟨k, rfl⟩ : ∃ m, k = m + 1 + 1 := ⟨k - 2, by omega⟩
            unfold spec_BestCharging.f
            rw [ask _ hk, ht, hb, h3 _ hk, hes]
            exact out2 k
          · unfold impl_BestCharging.f impl_allWithin.f
            rw [impl_tank, impl_ok, ht, hb, ee, hes]
            simp only [Option.bind_some, if_true, Bool.and_self]
            rw [if_pos (by omega), if_neg Bool.false_ne_true]
        · obtain ⟨X, s1, s2⟩ := spec_tab ht cs es hlen h24' most hh cs.length [List.replicate (a + 1).toNat 0] (Nat.le_refl _) (by simp; omega) (fun j hj => by
            rw [show j = 0 by omega, Nat.add_zero, List.drop_eq_nil_of_le (Nat.le_refl _)]; rfl)
          have e1 : wrap64 ((cs.length : Int) + 1) = (cs.length : Int) + 1 := wrap_id (by omega) (by omega)
          have e2 : wrap64 ((cs.length : Int) - 1) = (cs.length : Int) - 1 := wrap_id (by omega) (by omega)
          have eN : wrap64 (a + 1) = a + 1 := wrap_id (by omega) (by omega)
          have e3 : ((cs.length : Int) + 1).toNat = cs.length + 1 := by omega
          obtain ⟨Y, i1, i2⟩ := impl_tab ht cs es hlen h24' most hh cs.length ((List.replicate (cs.length + 1) []).set cs.length (List.replicate (a + 1).toNat 0)) (Nat.le_refl _) (by simp) (fun j j1 j2 => by
            rw [show j = cs.length by omega, getD_set (by simp), if_pos rfl, List.drop_eq_nil_of_le (Nat.le_refl _)]; rfl)
          have hXY := TabOk_one i2 s2
          subst hXY
          have hT := s2
          have hTl := hT.1
          have hR : (Y.getD 0 []).length = (a + 1).toNat := by rw [hT.2 _ (by omega)]; exact rowOf_len _ _ _ _ _ _
          have e0 : rd_L2 Y 0 = Y.getD 0 [] := rl_nat Y 0
          obtain ⟨r, w1, w2, hr⟩ := walk_all ht cs es hlen h24' most hh Y hT v hv.1 hv.2 cs.length 0 [] v (by omega) hv.1 hv.2 (by simp)
          have tabS : ∀ k, 1000000 ≤ k → spec_l14Table.f k [(⟨a, b, c⟩ : S26)] cs es most = some Y := fun k hk => by
            unfold spec_l14Table.f
            rw [if_pos (by simp), e, eN, e2]
            rw [if_pos (by omega), if_pos (by omega)]
            exact up (g := fun k => spec_l14Table.l0 k [(⟨a, b, c⟩ : S26)] cs es most [List.replicate (a + 1).toNat 0] ((cs.length : Int) - 1)) (fun k => (spec_l14Table.mono_l k).1 _ _ _ _ _ _) s1 k (by omega)
          have tabI : ∀ k, 1000000 ≤ k → impl_charging_costs.f k a b c cs es most = some Y := fun k hk => by
            unfold impl_charging_costs.f
            simp only [Option.bind_some]
            rw [e1, eN, e2, e3]
            clear e1 eN e2
            rw [if_pos (by omega), if_pos (by omega), if_pos (by omega), if_pos (by omega), if_pos (by omega), List.length_replicate, if_pos (by omega), Int.toNat_natCast]
            exact up (g := fun k => impl_charging_costs.l0 k _ ((cs.length : Int) - 1) a b c cs es most) (fun k => (impl_charging_costs.mono_l k).1 _ _ _ _ _ _ _ _) i1 k (by omega)
          clear e1 e2 eN
          by_cases hneg : rd (Y.getD 0 []) v < 0
          · refine ⟨[], 0, 3, fun k hk => ?_, fun k hk => ?_, by simp⟩
            · obtain ⟨k, rfl⟩ : ∃ m, k = m + 1 + 1 := ⟨k - 2, by omega⟩
              unfold spec_BestCharging.f
              rw [ask _ hk, ht, hb, h3 _ hk, hes, decide_eq_true (show (es.length : Int) ≤ 24 by omega), bne_castI, decide_eq_true hlen]
              simp only [Option.bind_some, if_true, Bool.and_self, Bool.not_true, spec_BestCharging.j0, spec_BestCharging.j1]
              rw [if_neg Bool.false_ne_true, tabS k (by omega)]
              simp only [Option.bind_some, e0]
              rw [if_pos (by omega), if_pos hv.1, if_pos (by omega), if_pos hneg]
            · unfold impl_BestCharging.f impl_allWithin.f
              rw [impl_tank, impl_ok, ht, hb, ee, hes, tabI k (by omega)]
              simp only [Option.bind_some, if_true, Bool.and_self, e0]
              rw [if_pos (by omega), if_pos (by omega), if_pos hv.1, if_pos (by omega), if_pos hneg]
          · refine ⟨r, rd (Y.getD 0 []) v, 0, fun k hk => ?_, fun k hk => ?_, hr⟩
            · obtain ⟨k, rfl⟩ : ∃ m, k = m + 1 + 1 := ⟨k - 2, by omega⟩
              unfold spec_BestCharging.f
              rw [ask _ hk, ht, hb, h3 _ hk, hes, decide_eq_true (show (es.length : Int) ≤ 24 by omega), bne_castI, decide_eq_true hlen]
              simp only [Option.bind_some, if_true, Bool.and_self, Bool.not_true, spec_BestCharging.j0, spec_BestCharging.j1]
              rw [if_neg Bool.false_ne_true, tabS k (by omega)]
              simp only [Option.bind_some, e0]
              rw [if_pos (by omega), if_pos hv.1, if_pos (by omega), if_neg hneg]
              exact w1 k (by omega)
            · unfold impl_BestCharging.f impl_allWithin.f
              rw [impl_tank, impl_ok, ht, hb, ee, hes, tabI k (by omega)]
              simp only [Option.bind_some, if_true, Bool.and_self, e0]
              rw [if_pos (by omega), if_pos (by omega), if_pos hv.1, if_pos (by omega), if_neg hneg]
              exact w2 k (by omega)
      · refine ⟨[], 0, 2, fun k hk => ?_, fun k hk => ?_, by simp⟩
        · obtain ⟨k, rfl⟩ : ∃ m, k = m + 1 + 1 := ⟨k - 2, by omega⟩
          unfold spec_BestCharging.f
          rw [ask _ hk, ht, hb, h3 _ hk, bne_castI, decide_eq_false hlen]
          simp only [Option.bind_some, if_true, Bool.not_false]
          cases (es.all hour && decide ((es.length : Int) ≤ 24)) <;> exact out2 k
        · unfold impl_BestCharging.f
          rw [impl_tank, impl_ok, ht, hb]
          simp only [Option.bind_some, if_true, Bool.and_self]
          rw [if_neg (by omega)]
theorem FnExactBestCharging : laws_FnExactBestCharging.Pure := by
  intro x v l p most _ _ _ _ _
  obtain ⟨a, b, c⟩ := x
  by_cases hl : l.length ≤ 1048576
  · by_cases hp : p.length ≤ 1048576
    · obtain ⟨k, hk⟩ : ∃ k, k = 3000000 := ⟨_, rfl⟩
      refine ⟨k + 3, ?_⟩
      obtain ⟨r, m, e, s, i, hr⟩ := best_both a b c v most l p hl hp
      have ee : (e != e) = false := by simp
      obtain ⟨m1, a1, b1, _⟩ := markc_held l 1 (by omega) (by omega) (by omega) (k + 2) (by omega)
      obtain ⟨m2, a2, b2, _⟩ := markc_held p (1 + (l.length : Int)) (by omega) (by omega) (by omega) (k + 2) (by omega)
      obtain ⟨m3, a3, b3, d3⟩ := markc_held r 1 (by omega) (by omega) (by omega) (k + 1) (by omega)
      unfold laws_FnExactBestCharging.f laws_toTank.f
      rw [if_neg (by omega), if_neg (by omega)]
      simp only [toI l (by omega) (k + 3) (by omega), toI p (by omega) (k + 3) (by omega), s (k + 3) (by omega), i (k + 3) (by omega), eqI r (by omega) (k + 3) (by omega), Option.bind_some, if_true, ee]
      simp only [laws_FnExactBestCharging.j0]
      rw [if_neg Bool.false_ne_true]
      simp only [toI l (by omega) (k + 2) (by omega), eqI l (by omega) (k + 2) (by omega), toI p (by omega) (k + 2) (by omega), eqI p (by omega) (k + 2) (by omega), eqI r (by omega) (k + 2) (by omega), a1, a2, Option.bind_some, if_true, ee]
      rw [if_neg (by omega)]
      simp only [laws_FnExactBestCharging.j1]
      unfold laws_toTank.f
      rw [if_neg Bool.false_ne_true]
      simp only [a3, d3 (k + 1) (by omega), toI l (by omega) (k + 1) (by omega), toI p (by omega) (k + 1) (by omega), i (k + 1) (by omega), eqI r (by omega) (k + 1) (by omega), Option.bind_some, if_true, ee]
      rw [if_neg (by omega)]
      simp only [laws_FnExactBestCharging.j2]
      rw [if_neg Bool.false_ne_true]
      simp only [d3 k (by omega), Option.bind_some, if_true]
      rw [if_neg (by omega)]
    · refine ⟨0, ?_⟩
      unfold laws_FnExactBestCharging.f
      rw [if_neg (by omega), if_pos (by omega)]
  · refine ⟨0, ?_⟩
    unfold laws_FnExactBestCharging.f
    rw [if_pos (by omega)]

end Go.Proofs.Ytpdgicpgjmibgaa.Pure
